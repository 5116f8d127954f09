/- What an operand may be. No condition beside those that each theorem names. -/
import Derived.Test.YthcmcekjgecnhabInE
namespace Go.Proofs.Ythcmcekjgecnhab.Sr
open Go.RowKit Go.Proofs.YthcmcekjgecnhabM.Mach
set_option linter.unusedVariables false
set_option linter.unusedSimpArgs false
def mostF (l cd : Int) : Int := if l = 114 then 3 else if l = 103 then 3 else if l = 115 then 1 else if l = 102 then 1 else if l = 116 then cd else if l = 45 then 0 else -1
def fitF (l n cd : Int) : Bool := decide (l = 110 ∨ (0 ≤ n ∧ n ≤ mostF l cd))
def fits_110_0_l0 (n : Int) (cd : Int) (γ1 : Nat → Nat) : List Value := [.int .u8 110, .int .i64 n, .agg #[.int .i64 4, .int .i64 0, .int .i64 2, .slice none 0 0], .int .i64 cd, zz, zz, .pointer (some ⟨γ1 0, 0, none⟩), zz, .bool true, .int .i64 (-1), .int .u8 110, .bool true, .bool true, zz, zz, zz]
def fits_110_0_l1 : List Value := [zz, zz, zz, zz, zz, zz, zz, zz, zz, zz, zz, zz, zz, zz, zz, zz]
def fits_110_0_l2 : List Value := [zz, zz, zz, zz, zz, zz, zz, zz, zz]
def fits_110_0_b3 (n : Int) (cd : Int) (γ1 : Nat → Nat) : List Value := (fits_110_0_l0 n cd γ1) ++ (fits_110_0_l1 ++ (fits_110_0_l2))
set_option maxHeartbeats 8000000 in
set_option maxRecDepth 100000 in
theorem fits_110 (n cd : Int) (w : World) : Calls Try.prog 52 #[.int .u8 110, .int .i64 n, .agg #[.int .i64 4, .int .i64 0, .int .i64 2, .slice none 0 0], .int .i64 cd] w fun e w' => e = .returned (.bool (fitF 110 n cd)) ∧ Below w.heap.size w w' := by
  refine enter (args := [.int .u8 110, .int .i64 n, .agg #[.int .i64 4, .int .i64 0, .int .i64 2, .slice none 0 0], .int .i64 cd]) (fn := Try.f52) rfl (c := bdy Try.f52) (by kernel_rfl) ?_
  refine ck 7 [] [] fun γ1 => ⟨⟨kt (bdy Try.f52) [1, 1, 0, 1, 0, 1, 0, 1] [], (fits_110_0_b3 n cd γ1), [(γ1 0, 51, [.int .i64 4, .int .i64 0, .int .i64 2, .slice none 0 0])]⟩, [], [], by kernel_rfl, .nil, ?_⟩
  refine rt (.bool true) [] [] (fun W hW => ?_)
  have hg : fitF 110 n cd = true := by
    unfold fitF
    rw [decide_eq_true]
    have hm : mostF 110 cd = -1 := rfl
    rw [hm]
    omega
  rw [hg]
  exact ⟨rfl, (hW.old 0 rfl)⟩
def fits_114_0_l0 (n : Int) (cd : Int) (γ1 : Nat → Nat) : List Value := [.int .u8 114, .int .i64 n, .agg #[.int .i64 4, .int .i64 0, .int .i64 2, .slice none 0 0], .int .i64 cd, zz, zz, .pointer (some ⟨γ1 0, 0, none⟩), zz, .bool false, .int .i64 3, .int .u8 114, .bool false, .bool false, .bool true, .bool true, zz]
def fits_114_0_l1 : List Value := [zz, zz, zz, zz, zz, zz, zz, zz, zz, zz, zz, zz, zz, zz, zz, zz]
def fits_114_0_l2 (n : Int) : List Value := [zz, zz, .int .i64 n, .bool false, .bool false, zz, zz, zz, .bool false]
def fits_114_0_b3 (n : Int) (cd : Int) (γ1 : Nat → Nat) : List Value := (fits_114_0_l0 n cd γ1) ++ (fits_114_0_l1 ++ ((fits_114_0_l2 n)))
def fits_114_1_l0 (n : Int) (cd : Int) (γ1 : Nat → Nat) : List Value := [.int .u8 114, .int .i64 n, .agg #[.int .i64 4, .int .i64 0, .int .i64 2, .slice none 0 0], .int .i64 cd, zz, zz, .pointer (some ⟨γ1 0, 0, none⟩), zz, .bool false, .int .i64 3, .int .u8 114, .bool false, .bool false, .bool true, .bool true, zz]
def fits_114_1_l1 : List Value := [zz, zz, zz, zz, zz, zz, zz, zz, zz, zz, zz, zz, zz, zz, zz, zz]
def fits_114_1_l2 (n : Int) : List Value := [zz, zz, .int .i64 n, .bool true, .bool true, .int .i64 n, .int .i64 3, .bool false, .bool false]
def fits_114_1_b3 (n : Int) (cd : Int) (γ1 : Nat → Nat) : List Value := (fits_114_1_l0 n cd γ1) ++ (fits_114_1_l1 ++ ((fits_114_1_l2 n)))
def fits_114_2_l0 (n : Int) (cd : Int) (γ1 : Nat → Nat) : List Value := [.int .u8 114, .int .i64 n, .agg #[.int .i64 4, .int .i64 0, .int .i64 2, .slice none 0 0], .int .i64 cd, zz, zz, .pointer (some ⟨γ1 0, 0, none⟩), zz, .bool true, .int .i64 3, .int .u8 114, .bool false, .bool false, .bool true, .bool true, zz]
def fits_114_2_l1 : List Value := [zz, zz, zz, zz, zz, zz, zz, zz, zz, zz, zz, zz, zz, zz, zz, zz]
def fits_114_2_l2 (n : Int) : List Value := [zz, zz, .int .i64 n, .bool true, .bool true, .int .i64 n, .int .i64 3, .bool true, .bool true]
def fits_114_2_b3 (n : Int) (cd : Int) (γ1 : Nat → Nat) : List Value := (fits_114_2_l0 n cd γ1) ++ (fits_114_2_l1 ++ ((fits_114_2_l2 n)))
set_option maxHeartbeats 8000000 in
set_option maxRecDepth 100000 in
theorem fits_114 (n cd : Int) (w : World) : Calls Try.prog 52 #[.int .u8 114, .int .i64 n, .agg #[.int .i64 4, .int .i64 0, .int .i64 2, .slice none 0 0], .int .i64 cd] w fun e w' => e = .returned (.bool (fitF 114 n cd)) ∧ Below w.heap.size w w' := by
  have hc : n < 0 ∨ (0 ≤ n ∧ ¬ n ≤ 3) ∨ (0 ≤ n ∧ n ≤ 3) := by omega
  rcases hc with hc | hc | hc
  · skip
    refine enter (args := [.int .u8 114, .int .i64 n, .agg #[.int .i64 4, .int .i64 0, .int .i64 2, .slice none 0 0], .int .i64 cd]) (fn := Try.f52) rfl (c := bdy Try.f52) (by kernel_rfl) ?_
    refine ck 17 [] [(10, .bool false)] fun γ1 => ⟨⟨kt (bdy Try.f52) [1, 1, 1, 1] [], (fits_114_0_b3 n cd γ1), [(γ1 0, 51, [.int .i64 4, .int .i64 0, .int .i64 2, .slice none 0 0])]⟩, [], [Value.bool (decide ((n : Int) ≥ 0)) = .bool false], by kernel_rfl, (.cons (cbF (by omega)) .nil), ?_⟩
    refine rt (.bool false) [] [] (fun W hW => ?_)
    have hg : fitF 114 n cd = false := by
      unfold fitF
      rw [decide_eq_false]
      have hm : mostF 114 cd = 3 := rfl
      rw [hm]
      omega
    rw [hg]
    exact ⟨rfl, (hW.old 0 rfl)⟩
  · skip
    refine enter (args := [.int .u8 114, .int .i64 n, .agg #[.int .i64 4, .int .i64 0, .int .i64 2, .slice none 0 0], .int .i64 cd]) (fn := Try.f52) rfl (c := bdy Try.f52) (by kernel_rfl) ?_
    refine ck 17 [] [(10, .bool true), (14, .bool false)] fun γ1 => ⟨⟨kt (bdy Try.f52) [1, 1, 1, 1] [], (fits_114_1_b3 n cd γ1), [(γ1 0, 51, [.int .i64 4, .int .i64 0, .int .i64 2, .slice none 0 0])]⟩, [], [Value.bool (decide ((n : Int) ≥ 0)) = .bool true, Value.bool (decide ((n : Int) ≤ 3)) = .bool false], by kernel_rfl, (.cons (cbT (by omega)) (.cons (cbF (by omega)) .nil)), ?_⟩
    refine rt (.bool false) [] [] (fun W hW => ?_)
    have hg : fitF 114 n cd = false := by
      unfold fitF
      rw [decide_eq_false]
      have hm : mostF 114 cd = 3 := rfl
      rw [hm]
      omega
    rw [hg]
    exact ⟨rfl, (hW.old 0 rfl)⟩
  · skip
    refine enter (args := [.int .u8 114, .int .i64 n, .agg #[.int .i64 4, .int .i64 0, .int .i64 2, .slice none 0 0], .int .i64 cd]) (fn := Try.f52) rfl (c := bdy Try.f52) (by kernel_rfl) ?_
    refine ck 17 [] [(10, .bool true), (14, .bool true)] fun γ1 => ⟨⟨kt (bdy Try.f52) [1, 1, 1, 1] [], (fits_114_2_b3 n cd γ1), [(γ1 0, 51, [.int .i64 4, .int .i64 0, .int .i64 2, .slice none 0 0])]⟩, [], [Value.bool (decide ((n : Int) ≥ 0)) = .bool true, Value.bool (decide ((n : Int) ≤ 3)) = .bool true], by kernel_rfl, (.cons (cbT (by omega)) (.cons (cbT (by omega)) .nil)), ?_⟩
    refine rt (.bool true) [] [] (fun W hW => ?_)
    have hg : fitF 114 n cd = true := by
      unfold fitF
      rw [decide_eq_true]
      have hm : mostF 114 cd = 3 := rfl
      rw [hm]
      omega
    rw [hg]
    exact ⟨rfl, (hW.old 0 rfl)⟩
def fits_103_0_l0 (n : Int) (cd : Int) (γ1 : Nat → Nat) : List Value := [.int .u8 103, .int .i64 n, .agg #[.int .i64 4, .int .i64 0, .int .i64 2, .slice none 0 0], .int .i64 cd, zz, zz, .pointer (some ⟨γ1 0, 0, none⟩), zz, .bool false, .int .i64 3, .int .u8 103, .bool false, .bool false, .bool false, .bool false, .bool true]
def fits_103_0_l1 (γ1 : Nat → Nat) : List Value := [.bool true, .pointer (some ⟨γ1 0, 0, none⟩), .int .i64 4, .int .i64 4, .int .i64 3, zz, zz, zz, zz, zz, zz, zz, zz, zz, zz, zz]
def fits_103_0_l2 (n : Int) : List Value := [zz, zz, .int .i64 n, .bool false, .bool false, zz, zz, zz, .bool false]
def fits_103_0_b3 (n : Int) (cd : Int) (γ1 : Nat → Nat) : List Value := (fits_103_0_l0 n cd γ1) ++ ((fits_103_0_l1 γ1) ++ ((fits_103_0_l2 n)))
def fits_103_1_l0 (n : Int) (cd : Int) (γ1 : Nat → Nat) : List Value := [.int .u8 103, .int .i64 n, .agg #[.int .i64 4, .int .i64 0, .int .i64 2, .slice none 0 0], .int .i64 cd, zz, zz, .pointer (some ⟨γ1 0, 0, none⟩), zz, .bool false, .int .i64 3, .int .u8 103, .bool false, .bool false, .bool false, .bool false, .bool true]
def fits_103_1_l1 (γ1 : Nat → Nat) : List Value := [.bool true, .pointer (some ⟨γ1 0, 0, none⟩), .int .i64 4, .int .i64 4, .int .i64 3, zz, zz, zz, zz, zz, zz, zz, zz, zz, zz, zz]
def fits_103_1_l2 (n : Int) : List Value := [zz, zz, .int .i64 n, .bool true, .bool true, .int .i64 n, .int .i64 3, .bool false, .bool false]
def fits_103_1_b3 (n : Int) (cd : Int) (γ1 : Nat → Nat) : List Value := (fits_103_1_l0 n cd γ1) ++ ((fits_103_1_l1 γ1) ++ ((fits_103_1_l2 n)))
def fits_103_2_l0 (n : Int) (cd : Int) (γ1 : Nat → Nat) : List Value := [.int .u8 103, .int .i64 n, .agg #[.int .i64 4, .int .i64 0, .int .i64 2, .slice none 0 0], .int .i64 cd, zz, zz, .pointer (some ⟨γ1 0, 0, none⟩), zz, .bool true, .int .i64 3, .int .u8 103, .bool false, .bool false, .bool false, .bool false, .bool true]
def fits_103_2_l1 (γ1 : Nat → Nat) : List Value := [.bool true, .pointer (some ⟨γ1 0, 0, none⟩), .int .i64 4, .int .i64 4, .int .i64 3, zz, zz, zz, zz, zz, zz, zz, zz, zz, zz, zz]
def fits_103_2_l2 (n : Int) : List Value := [zz, zz, .int .i64 n, .bool true, .bool true, .int .i64 n, .int .i64 3, .bool true, .bool true]
def fits_103_2_b3 (n : Int) (cd : Int) (γ1 : Nat → Nat) : List Value := (fits_103_2_l0 n cd γ1) ++ ((fits_103_2_l1 γ1) ++ ((fits_103_2_l2 n)))
set_option maxHeartbeats 8000000 in
set_option maxRecDepth 100000 in
theorem fits_103 (n cd : Int) (w : World) : Calls Try.prog 52 #[.int .u8 103, .int .i64 n, .agg #[.int .i64 4, .int .i64 0, .int .i64 2, .slice none 0 0], .int .i64 cd] w fun e w' => e = .returned (.bool (fitF 103 n cd)) ∧ Below w.heap.size w w' := by
  have hc : n < 0 ∨ (0 ≤ n ∧ ¬ n ≤ 3) ∨ (0 ≤ n ∧ n ≤ 3) := by omega
  rcases hc with hc | hc | hc
  · skip
    refine enter (args := [.int .u8 103, .int .i64 n, .agg #[.int .i64 4, .int .i64 0, .int .i64 2, .slice none 0 0], .int .i64 cd]) (fn := Try.f52) rfl (c := bdy Try.f52) (by kernel_rfl) ?_
    refine ck 23 [(1, 0)] [(16, .bool false)] fun γ1 => ⟨⟨kt (bdy Try.f52) [1, 1, 1, 1] [], (fits_103_0_b3 n cd γ1), [(γ1 0, 51, [.int .i64 4, .int .i64 0, .int .i64 2, .slice none 0 0])]⟩, [(1, γ1 0)], [Value.bool (decide ((n : Int) ≥ 0)) = .bool false], by kernel_rfl, (.cons (cbF (by omega)) .nil), ?_⟩
    refine rt (.bool false) [] [] (fun W hW => ?_)
    have hg : fitF 103 n cd = false := by
      unfold fitF
      rw [decide_eq_false]
      have hm : mostF 103 cd = 3 := rfl
      rw [hm]
      omega
    rw [hg]
    exact ⟨rfl, (hW.old 0 rfl)⟩
  · skip
    refine enter (args := [.int .u8 103, .int .i64 n, .agg #[.int .i64 4, .int .i64 0, .int .i64 2, .slice none 0 0], .int .i64 cd]) (fn := Try.f52) rfl (c := bdy Try.f52) (by kernel_rfl) ?_
    refine ck 23 [(1, 0)] [(16, .bool true), (20, .bool false)] fun γ1 => ⟨⟨kt (bdy Try.f52) [1, 1, 1, 1] [], (fits_103_1_b3 n cd γ1), [(γ1 0, 51, [.int .i64 4, .int .i64 0, .int .i64 2, .slice none 0 0])]⟩, [(1, γ1 0)], [Value.bool (decide ((n : Int) ≥ 0)) = .bool true, Value.bool (decide ((n : Int) ≤ 3)) = .bool false], by kernel_rfl, (.cons (cbT (by omega)) (.cons (cbF (by omega)) .nil)), ?_⟩
    refine rt (.bool false) [] [] (fun W hW => ?_)
    have hg : fitF 103 n cd = false := by
      unfold fitF
      rw [decide_eq_false]
      have hm : mostF 103 cd = 3 := rfl
      rw [hm]
      omega
    rw [hg]
    exact ⟨rfl, (hW.old 0 rfl)⟩
  · skip
    refine enter (args := [.int .u8 103, .int .i64 n, .agg #[.int .i64 4, .int .i64 0, .int .i64 2, .slice none 0 0], .int .i64 cd]) (fn := Try.f52) rfl (c := bdy Try.f52) (by kernel_rfl) ?_
    refine ck 23 [(1, 0)] [(16, .bool true), (20, .bool true)] fun γ1 => ⟨⟨kt (bdy Try.f52) [1, 1, 1, 1] [], (fits_103_2_b3 n cd γ1), [(γ1 0, 51, [.int .i64 4, .int .i64 0, .int .i64 2, .slice none 0 0])]⟩, [(1, γ1 0)], [Value.bool (decide ((n : Int) ≥ 0)) = .bool true, Value.bool (decide ((n : Int) ≤ 3)) = .bool true], by kernel_rfl, (.cons (cbT (by omega)) (.cons (cbT (by omega)) .nil)), ?_⟩
    refine rt (.bool true) [] [] (fun W hW => ?_)
    have hg : fitF 103 n cd = true := by
      unfold fitF
      rw [decide_eq_true]
      have hm : mostF 103 cd = 3 := rfl
      rw [hm]
      omega
    rw [hg]
    exact ⟨rfl, (hW.old 0 rfl)⟩
def fits_115_0_l0 (n : Int) (cd : Int) (γ1 : Nat → Nat) : List Value := [.int .u8 115, .int .i64 n, .agg #[.int .i64 4, .int .i64 0, .int .i64 2, .slice none 0 0], .int .i64 cd, zz, zz, .pointer (some ⟨γ1 0, 0, none⟩), zz, .bool false, .int .i64 1, .int .u8 115, .bool false, .bool false, .bool false, .bool false, .bool false]
def fits_115_0_l1 (γ1 : Nat → Nat) : List Value := [.bool false, zz, zz, zz, zz, .bool true, .bool true, .pointer (some ⟨γ1 0, 2, none⟩), .int .i64 2, .int .i64 2, .int .i64 1, zz, zz, zz, zz, zz]
def fits_115_0_l2 (n : Int) : List Value := [zz, zz, .int .i64 n, .bool false, .bool false, zz, zz, zz, .bool false]
def fits_115_0_b3 (n : Int) (cd : Int) (γ1 : Nat → Nat) : List Value := (fits_115_0_l0 n cd γ1) ++ ((fits_115_0_l1 γ1) ++ ((fits_115_0_l2 n)))
def fits_115_1_l0 (n : Int) (cd : Int) (γ1 : Nat → Nat) : List Value := [.int .u8 115, .int .i64 n, .agg #[.int .i64 4, .int .i64 0, .int .i64 2, .slice none 0 0], .int .i64 cd, zz, zz, .pointer (some ⟨γ1 0, 0, none⟩), zz, .bool false, .int .i64 1, .int .u8 115, .bool false, .bool false, .bool false, .bool false, .bool false]
def fits_115_1_l1 (γ1 : Nat → Nat) : List Value := [.bool false, zz, zz, zz, zz, .bool true, .bool true, .pointer (some ⟨γ1 0, 2, none⟩), .int .i64 2, .int .i64 2, .int .i64 1, zz, zz, zz, zz, zz]
def fits_115_1_l2 (n : Int) : List Value := [zz, zz, .int .i64 n, .bool true, .bool true, .int .i64 n, .int .i64 1, .bool false, .bool false]
def fits_115_1_b3 (n : Int) (cd : Int) (γ1 : Nat → Nat) : List Value := (fits_115_1_l0 n cd γ1) ++ ((fits_115_1_l1 γ1) ++ ((fits_115_1_l2 n)))
def fits_115_2_l0 (n : Int) (cd : Int) (γ1 : Nat → Nat) : List Value := [.int .u8 115, .int .i64 n, .agg #[.int .i64 4, .int .i64 0, .int .i64 2, .slice none 0 0], .int .i64 cd, zz, zz, .pointer (some ⟨γ1 0, 0, none⟩), zz, .bool true, .int .i64 1, .int .u8 115, .bool false, .bool false, .bool false, .bool false, .bool false]
def fits_115_2_l1 (γ1 : Nat → Nat) : List Value := [.bool false, zz, zz, zz, zz, .bool true, .bool true, .pointer (some ⟨γ1 0, 2, none⟩), .int .i64 2, .int .i64 2, .int .i64 1, zz, zz, zz, zz, zz]
def fits_115_2_l2 (n : Int) : List Value := [zz, zz, .int .i64 n, .bool true, .bool true, .int .i64 n, .int .i64 1, .bool true, .bool true]
def fits_115_2_b3 (n : Int) (cd : Int) (γ1 : Nat → Nat) : List Value := (fits_115_2_l0 n cd γ1) ++ ((fits_115_2_l1 γ1) ++ ((fits_115_2_l2 n)))
set_option maxHeartbeats 8000000 in
set_option maxRecDepth 100000 in
theorem fits_115 (n cd : Int) (w : World) : Calls Try.prog 52 #[.int .u8 115, .int .i64 n, .agg #[.int .i64 4, .int .i64 0, .int .i64 2, .slice none 0 0], .int .i64 cd] w fun e w' => e = .returned (.bool (fitF 115 n cd)) ∧ Below w.heap.size w w' := by
  have hc : n < 0 ∨ (0 ≤ n ∧ ¬ n ≤ 1) ∨ (0 ≤ n ∧ n ≤ 1) := by omega
  rcases hc with hc | hc | hc
  · skip
    refine enter (args := [.int .u8 115, .int .i64 n, .agg #[.int .i64 4, .int .i64 0, .int .i64 2, .slice none 0 0], .int .i64 cd]) (fn := Try.f52) rfl (c := bdy Try.f52) (by kernel_rfl) ?_
    refine ck 25 [(1, 0)] [(18, .bool false)] fun γ1 => ⟨⟨kt (bdy Try.f52) [1, 1, 1, 1] [], (fits_115_0_b3 n cd γ1), [(γ1 0, 51, [.int .i64 4, .int .i64 0, .int .i64 2, .slice none 0 0])]⟩, [(1, γ1 0)], [Value.bool (decide ((n : Int) ≥ 0)) = .bool false], by kernel_rfl, (.cons (cbF (by omega)) .nil), ?_⟩
    refine rt (.bool false) [] [] (fun W hW => ?_)
    have hg : fitF 115 n cd = false := by
      unfold fitF
      rw [decide_eq_false]
      have hm : mostF 115 cd = 1 := rfl
      rw [hm]
      omega
    rw [hg]
    exact ⟨rfl, (hW.old 0 rfl)⟩
  · skip
    refine enter (args := [.int .u8 115, .int .i64 n, .agg #[.int .i64 4, .int .i64 0, .int .i64 2, .slice none 0 0], .int .i64 cd]) (fn := Try.f52) rfl (c := bdy Try.f52) (by kernel_rfl) ?_
    refine ck 25 [(1, 0)] [(18, .bool true), (22, .bool false)] fun γ1 => ⟨⟨kt (bdy Try.f52) [1, 1, 1, 1] [], (fits_115_1_b3 n cd γ1), [(γ1 0, 51, [.int .i64 4, .int .i64 0, .int .i64 2, .slice none 0 0])]⟩, [(1, γ1 0)], [Value.bool (decide ((n : Int) ≥ 0)) = .bool true, Value.bool (decide ((n : Int) ≤ 1)) = .bool false], by kernel_rfl, (.cons (cbT (by omega)) (.cons (cbF (by omega)) .nil)), ?_⟩
    refine rt (.bool false) [] [] (fun W hW => ?_)
    have hg : fitF 115 n cd = false := by
      unfold fitF
      rw [decide_eq_false]
      have hm : mostF 115 cd = 1 := rfl
      rw [hm]
      omega
    rw [hg]
    exact ⟨rfl, (hW.old 0 rfl)⟩
  · skip
    refine enter (args := [.int .u8 115, .int .i64 n, .agg #[.int .i64 4, .int .i64 0, .int .i64 2, .slice none 0 0], .int .i64 cd]) (fn := Try.f52) rfl (c := bdy Try.f52) (by kernel_rfl) ?_
    refine ck 25 [(1, 0)] [(18, .bool true), (22, .bool true)] fun γ1 => ⟨⟨kt (bdy Try.f52) [1, 1, 1, 1] [], (fits_115_2_b3 n cd γ1), [(γ1 0, 51, [.int .i64 4, .int .i64 0, .int .i64 2, .slice none 0 0])]⟩, [(1, γ1 0)], [Value.bool (decide ((n : Int) ≥ 0)) = .bool true, Value.bool (decide ((n : Int) ≤ 1)) = .bool true], by kernel_rfl, (.cons (cbT (by omega)) (.cons (cbT (by omega)) .nil)), ?_⟩
    refine rt (.bool true) [] [] (fun W hW => ?_)
    have hg : fitF 115 n cd = true := by
      unfold fitF
      rw [decide_eq_true]
      have hm : mostF 115 cd = 1 := rfl
      rw [hm]
      omega
    rw [hg]
    exact ⟨rfl, (hW.old 0 rfl)⟩
def fits_102_0_l0 (n : Int) (cd : Int) (γ1 : Nat → Nat) : List Value := [.int .u8 102, .int .i64 n, .agg #[.int .i64 4, .int .i64 0, .int .i64 2, .slice none 0 0], .int .i64 cd, zz, zz, .pointer (some ⟨γ1 0, 0, none⟩), zz, .bool false, .int .i64 1, .int .u8 102, .bool false, .bool false, .bool false, .bool false, .bool false]
def fits_102_0_l1 : List Value := [.bool false, zz, zz, zz, zz, .bool false, .bool false, zz, zz, zz, zz, .bool true, .bool true, zz, zz, zz]
def fits_102_0_l2 (n : Int) : List Value := [zz, zz, .int .i64 n, .bool false, .bool false, zz, zz, zz, .bool false]
def fits_102_0_b3 (n : Int) (cd : Int) (γ1 : Nat → Nat) : List Value := (fits_102_0_l0 n cd γ1) ++ (fits_102_0_l1 ++ ((fits_102_0_l2 n)))
def fits_102_1_l0 (n : Int) (cd : Int) (γ1 : Nat → Nat) : List Value := [.int .u8 102, .int .i64 n, .agg #[.int .i64 4, .int .i64 0, .int .i64 2, .slice none 0 0], .int .i64 cd, zz, zz, .pointer (some ⟨γ1 0, 0, none⟩), zz, .bool false, .int .i64 1, .int .u8 102, .bool false, .bool false, .bool false, .bool false, .bool false]
def fits_102_1_l1 : List Value := [.bool false, zz, zz, zz, zz, .bool false, .bool false, zz, zz, zz, zz, .bool true, .bool true, zz, zz, zz]
def fits_102_1_l2 (n : Int) : List Value := [zz, zz, .int .i64 n, .bool true, .bool true, .int .i64 n, .int .i64 1, .bool false, .bool false]
def fits_102_1_b3 (n : Int) (cd : Int) (γ1 : Nat → Nat) : List Value := (fits_102_1_l0 n cd γ1) ++ (fits_102_1_l1 ++ ((fits_102_1_l2 n)))
def fits_102_2_l0 (n : Int) (cd : Int) (γ1 : Nat → Nat) : List Value := [.int .u8 102, .int .i64 n, .agg #[.int .i64 4, .int .i64 0, .int .i64 2, .slice none 0 0], .int .i64 cd, zz, zz, .pointer (some ⟨γ1 0, 0, none⟩), zz, .bool true, .int .i64 1, .int .u8 102, .bool false, .bool false, .bool false, .bool false, .bool false]
def fits_102_2_l1 : List Value := [.bool false, zz, zz, zz, zz, .bool false, .bool false, zz, zz, zz, zz, .bool true, .bool true, zz, zz, zz]
def fits_102_2_l2 (n : Int) : List Value := [zz, zz, .int .i64 n, .bool true, .bool true, .int .i64 n, .int .i64 1, .bool true, .bool true]
def fits_102_2_b3 (n : Int) (cd : Int) (γ1 : Nat → Nat) : List Value := (fits_102_2_l0 n cd γ1) ++ (fits_102_2_l1 ++ ((fits_102_2_l2 n)))
set_option maxHeartbeats 8000000 in
set_option maxRecDepth 100000 in
theorem fits_102 (n cd : Int) (w : World) : Calls Try.prog 52 #[.int .u8 102, .int .i64 n, .agg #[.int .i64 4, .int .i64 0, .int .i64 2, .slice none 0 0], .int .i64 cd] w fun e w' => e = .returned (.bool (fitF 102 n cd)) ∧ Below w.heap.size w w' := by
  have hc : n < 0 ∨ (0 ≤ n ∧ ¬ n ≤ 1) ∨ (0 ≤ n ∧ n ≤ 1) := by omega
  rcases hc with hc | hc | hc
  · skip
    refine enter (args := [.int .u8 102, .int .i64 n, .agg #[.int .i64 4, .int .i64 0, .int .i64 2, .slice none 0 0], .int .i64 cd]) (fn := Try.f52) rfl (c := bdy Try.f52) (by kernel_rfl) ?_
    refine ck 23 [] [(16, .bool false)] fun γ1 => ⟨⟨kt (bdy Try.f52) [1, 1, 1, 1] [], (fits_102_0_b3 n cd γ1), [(γ1 0, 51, [.int .i64 4, .int .i64 0, .int .i64 2, .slice none 0 0])]⟩, [], [Value.bool (decide ((n : Int) ≥ 0)) = .bool false], by kernel_rfl, (.cons (cbF (by omega)) .nil), ?_⟩
    refine rt (.bool false) [] [] (fun W hW => ?_)
    have hg : fitF 102 n cd = false := by
      unfold fitF
      rw [decide_eq_false]
      have hm : mostF 102 cd = 1 := rfl
      rw [hm]
      omega
    rw [hg]
    exact ⟨rfl, (hW.old 0 rfl)⟩
  · skip
    refine enter (args := [.int .u8 102, .int .i64 n, .agg #[.int .i64 4, .int .i64 0, .int .i64 2, .slice none 0 0], .int .i64 cd]) (fn := Try.f52) rfl (c := bdy Try.f52) (by kernel_rfl) ?_
    refine ck 23 [] [(16, .bool true), (20, .bool false)] fun γ1 => ⟨⟨kt (bdy Try.f52) [1, 1, 1, 1] [], (fits_102_1_b3 n cd γ1), [(γ1 0, 51, [.int .i64 4, .int .i64 0, .int .i64 2, .slice none 0 0])]⟩, [], [Value.bool (decide ((n : Int) ≥ 0)) = .bool true, Value.bool (decide ((n : Int) ≤ 1)) = .bool false], by kernel_rfl, (.cons (cbT (by omega)) (.cons (cbF (by omega)) .nil)), ?_⟩
    refine rt (.bool false) [] [] (fun W hW => ?_)
    have hg : fitF 102 n cd = false := by
      unfold fitF
      rw [decide_eq_false]
      have hm : mostF 102 cd = 1 := rfl
      rw [hm]
      omega
    rw [hg]
    exact ⟨rfl, (hW.old 0 rfl)⟩
  · skip
    refine enter (args := [.int .u8 102, .int .i64 n, .agg #[.int .i64 4, .int .i64 0, .int .i64 2, .slice none 0 0], .int .i64 cd]) (fn := Try.f52) rfl (c := bdy Try.f52) (by kernel_rfl) ?_
    refine ck 23 [] [(16, .bool true), (20, .bool true)] fun γ1 => ⟨⟨kt (bdy Try.f52) [1, 1, 1, 1] [], (fits_102_2_b3 n cd γ1), [(γ1 0, 51, [.int .i64 4, .int .i64 0, .int .i64 2, .slice none 0 0])]⟩, [], [Value.bool (decide ((n : Int) ≥ 0)) = .bool true, Value.bool (decide ((n : Int) ≤ 1)) = .bool true], by kernel_rfl, (.cons (cbT (by omega)) (.cons (cbT (by omega)) .nil)), ?_⟩
    refine rt (.bool true) [] [] (fun W hW => ?_)
    have hg : fitF 102 n cd = true := by
      unfold fitF
      rw [decide_eq_true]
      have hm : mostF 102 cd = 1 := rfl
      rw [hm]
      omega
    rw [hg]
    exact ⟨rfl, (hW.old 0 rfl)⟩
def fits_116_0_l0 (n : Int) (cd : Int) (γ1 : Nat → Nat) : List Value := [.int .u8 116, .int .i64 n, .agg #[.int .i64 4, .int .i64 0, .int .i64 2, .slice none 0 0], .int .i64 cd, zz, zz, .pointer (some ⟨γ1 0, 0, none⟩), zz, .bool false, .int .i64 cd, .int .u8 116, .bool false, .bool false, .bool false, .bool false, .bool false]
def fits_116_0_l1 (cd : Int) : List Value := [.bool false, zz, zz, zz, zz, .bool false, .bool false, zz, zz, zz, zz, .bool false, .bool false, .bool true, .bool true, .int .i64 cd]
def fits_116_0_l2 (n : Int) : List Value := [zz, zz, .int .i64 n, .bool false, .bool false, zz, zz, zz, .bool false]
def fits_116_0_b3 (n : Int) (cd : Int) (γ1 : Nat → Nat) : List Value := (fits_116_0_l0 n cd γ1) ++ ((fits_116_0_l1 cd) ++ ((fits_116_0_l2 n)))
def fits_116_1_l0 (n : Int) (cd : Int) (γ1 : Nat → Nat) : List Value := [.int .u8 116, .int .i64 n, .agg #[.int .i64 4, .int .i64 0, .int .i64 2, .slice none 0 0], .int .i64 cd, zz, zz, .pointer (some ⟨γ1 0, 0, none⟩), zz, .bool false, .int .i64 cd, .int .u8 116, .bool false, .bool false, .bool false, .bool false, .bool false]
def fits_116_1_l1 (cd : Int) : List Value := [.bool false, zz, zz, zz, zz, .bool false, .bool false, zz, zz, zz, zz, .bool false, .bool false, .bool true, .bool true, .int .i64 cd]
def fits_116_1_l2 (n : Int) (cd : Int) : List Value := [zz, zz, .int .i64 n, .bool true, .bool true, .int .i64 n, .int .i64 cd, .bool false, .bool false]
def fits_116_1_b3 (n : Int) (cd : Int) (γ1 : Nat → Nat) : List Value := (fits_116_1_l0 n cd γ1) ++ ((fits_116_1_l1 cd) ++ ((fits_116_1_l2 n cd)))
def fits_116_2_l0 (n : Int) (cd : Int) (γ1 : Nat → Nat) : List Value := [.int .u8 116, .int .i64 n, .agg #[.int .i64 4, .int .i64 0, .int .i64 2, .slice none 0 0], .int .i64 cd, zz, zz, .pointer (some ⟨γ1 0, 0, none⟩), zz, .bool true, .int .i64 cd, .int .u8 116, .bool false, .bool false, .bool false, .bool false, .bool false]
def fits_116_2_l1 (cd : Int) : List Value := [.bool false, zz, zz, zz, zz, .bool false, .bool false, zz, zz, zz, zz, .bool false, .bool false, .bool true, .bool true, .int .i64 cd]
def fits_116_2_l2 (n : Int) (cd : Int) : List Value := [zz, zz, .int .i64 n, .bool true, .bool true, .int .i64 n, .int .i64 cd, .bool true, .bool true]
def fits_116_2_b3 (n : Int) (cd : Int) (γ1 : Nat → Nat) : List Value := (fits_116_2_l0 n cd γ1) ++ ((fits_116_2_l1 cd) ++ ((fits_116_2_l2 n cd)))
set_option maxHeartbeats 8000000 in
set_option maxRecDepth 100000 in
theorem fits_116 (n cd : Int) (w : World) : Calls Try.prog 52 #[.int .u8 116, .int .i64 n, .agg #[.int .i64 4, .int .i64 0, .int .i64 2, .slice none 0 0], .int .i64 cd] w fun e w' => e = .returned (.bool (fitF 116 n cd)) ∧ Below w.heap.size w w' := by
  have hc : n < 0 ∨ (0 ≤ n ∧ ¬ n ≤ cd) ∨ (0 ≤ n ∧ n ≤ cd) := by omega
  rcases hc with hc | hc | hc
  · skip
    refine enter (args := [.int .u8 116, .int .i64 n, .agg #[.int .i64 4, .int .i64 0, .int .i64 2, .slice none 0 0], .int .i64 cd]) (fn := Try.f52) rfl (c := bdy Try.f52) (by kernel_rfl) ?_
    refine ck 26 [] [(19, .bool false)] fun γ1 => ⟨⟨kt (bdy Try.f52) [1, 1, 1, 1] [], (fits_116_0_b3 n cd γ1), [(γ1 0, 51, [.int .i64 4, .int .i64 0, .int .i64 2, .slice none 0 0])]⟩, [], [Value.bool (decide ((n : Int) ≥ 0)) = .bool false], by kernel_rfl, (.cons (cbF (by omega)) .nil), ?_⟩
    refine rt (.bool false) [] [] (fun W hW => ?_)
    have hg : fitF 116 n cd = false := by
      unfold fitF
      rw [decide_eq_false]
      have hm : mostF 116 cd = cd := rfl
      rw [hm]
      omega
    rw [hg]
    exact ⟨rfl, (hW.old 0 rfl)⟩
  · skip
    refine enter (args := [.int .u8 116, .int .i64 n, .agg #[.int .i64 4, .int .i64 0, .int .i64 2, .slice none 0 0], .int .i64 cd]) (fn := Try.f52) rfl (c := bdy Try.f52) (by kernel_rfl) ?_
    refine ck 26 [] [(19, .bool true), (23, .bool false)] fun γ1 => ⟨⟨kt (bdy Try.f52) [1, 1, 1, 1] [], (fits_116_1_b3 n cd γ1), [(γ1 0, 51, [.int .i64 4, .int .i64 0, .int .i64 2, .slice none 0 0])]⟩, [], [Value.bool (decide ((n : Int) ≥ 0)) = .bool true, Value.bool (decide ((n : Int) ≤ cd)) = .bool false], by kernel_rfl, (.cons (cbT (by omega)) (.cons (cbF (by omega)) .nil)), ?_⟩
    refine rt (.bool false) [] [] (fun W hW => ?_)
    have hg : fitF 116 n cd = false := by
      unfold fitF
      rw [decide_eq_false]
      have hm : mostF 116 cd = cd := rfl
      rw [hm]
      omega
    rw [hg]
    exact ⟨rfl, (hW.old 0 rfl)⟩
  · skip
    refine enter (args := [.int .u8 116, .int .i64 n, .agg #[.int .i64 4, .int .i64 0, .int .i64 2, .slice none 0 0], .int .i64 cd]) (fn := Try.f52) rfl (c := bdy Try.f52) (by kernel_rfl) ?_
    refine ck 26 [] [(19, .bool true), (23, .bool true)] fun γ1 => ⟨⟨kt (bdy Try.f52) [1, 1, 1, 1] [], (fits_116_2_b3 n cd γ1), [(γ1 0, 51, [.int .i64 4, .int .i64 0, .int .i64 2, .slice none 0 0])]⟩, [], [Value.bool (decide ((n : Int) ≥ 0)) = .bool true, Value.bool (decide ((n : Int) ≤ cd)) = .bool true], by kernel_rfl, (.cons (cbT (by omega)) (.cons (cbT (by omega)) .nil)), ?_⟩
    refine rt (.bool true) [] [] (fun W hW => ?_)
    have hg : fitF 116 n cd = true := by
      unfold fitF
      rw [decide_eq_true]
      have hm : mostF 116 cd = cd := rfl
      rw [hm]
      omega
    rw [hg]
    exact ⟨rfl, (hW.old 0 rfl)⟩
def fits_45_0_l0 (n : Int) (cd : Int) (γ1 : Nat → Nat) : List Value := [.int .u8 45, .int .i64 n, .agg #[.int .i64 4, .int .i64 0, .int .i64 2, .slice none 0 0], .int .i64 cd, zz, zz, .pointer (some ⟨γ1 0, 0, none⟩), zz, .bool false, .int .i64 0, .int .u8 45, .bool false, .bool false, .bool false, .bool false, .bool false]
def fits_45_0_l1 : List Value := [.bool false, zz, zz, zz, zz, .bool false, .bool false, zz, zz, zz, zz, .bool false, .bool false, .bool false, .bool false, zz]
def fits_45_0_l2 (n : Int) : List Value := [.bool true, .bool true, .int .i64 n, .bool false, .bool false, zz, zz, zz, .bool false]
def fits_45_0_b3 (n : Int) (cd : Int) (γ1 : Nat → Nat) : List Value := (fits_45_0_l0 n cd γ1) ++ (fits_45_0_l1 ++ ((fits_45_0_l2 n)))
def fits_45_1_l0 (n : Int) (cd : Int) (γ1 : Nat → Nat) : List Value := [.int .u8 45, .int .i64 n, .agg #[.int .i64 4, .int .i64 0, .int .i64 2, .slice none 0 0], .int .i64 cd, zz, zz, .pointer (some ⟨γ1 0, 0, none⟩), zz, .bool false, .int .i64 0, .int .u8 45, .bool false, .bool false, .bool false, .bool false, .bool false]
def fits_45_1_l1 : List Value := [.bool false, zz, zz, zz, zz, .bool false, .bool false, zz, zz, zz, zz, .bool false, .bool false, .bool false, .bool false, zz]
def fits_45_1_l2 (n : Int) : List Value := [.bool true, .bool true, .int .i64 n, .bool true, .bool true, .int .i64 n, .int .i64 0, .bool false, .bool false]
def fits_45_1_b3 (n : Int) (cd : Int) (γ1 : Nat → Nat) : List Value := (fits_45_1_l0 n cd γ1) ++ (fits_45_1_l1 ++ ((fits_45_1_l2 n)))
def fits_45_2_l0 (n : Int) (cd : Int) (γ1 : Nat → Nat) : List Value := [.int .u8 45, .int .i64 n, .agg #[.int .i64 4, .int .i64 0, .int .i64 2, .slice none 0 0], .int .i64 cd, zz, zz, .pointer (some ⟨γ1 0, 0, none⟩), zz, .bool true, .int .i64 0, .int .u8 45, .bool false, .bool false, .bool false, .bool false, .bool false]
def fits_45_2_l1 : List Value := [.bool false, zz, zz, zz, zz, .bool false, .bool false, zz, zz, zz, zz, .bool false, .bool false, .bool false, .bool false, zz]
def fits_45_2_l2 (n : Int) : List Value := [.bool true, .bool true, .int .i64 n, .bool true, .bool true, .int .i64 n, .int .i64 0, .bool true, .bool true]
def fits_45_2_b3 (n : Int) (cd : Int) (γ1 : Nat → Nat) : List Value := (fits_45_2_l0 n cd γ1) ++ (fits_45_2_l1 ++ ((fits_45_2_l2 n)))
set_option maxHeartbeats 8000000 in
set_option maxRecDepth 100000 in
theorem fits_45 (n cd : Int) (w : World) : Calls Try.prog 52 #[.int .u8 45, .int .i64 n, .agg #[.int .i64 4, .int .i64 0, .int .i64 2, .slice none 0 0], .int .i64 cd] w fun e w' => e = .returned (.bool (fitF 45 n cd)) ∧ Below w.heap.size w w' := by
  have hc : n < 0 ∨ (0 ≤ n ∧ ¬ n ≤ 0) ∨ (0 ≤ n ∧ n ≤ 0) := by omega
  rcases hc with hc | hc | hc
  · skip
    refine enter (args := [.int .u8 45, .int .i64 n, .agg #[.int .i64 4, .int .i64 0, .int .i64 2, .slice none 0 0], .int .i64 cd]) (fn := Try.f52) rfl (c := bdy Try.f52) (by kernel_rfl) ?_
    refine ck 27 [] [(20, .bool false)] fun γ1 => ⟨⟨kt (bdy Try.f52) [1, 1, 1, 1] [], (fits_45_0_b3 n cd γ1), [(γ1 0, 51, [.int .i64 4, .int .i64 0, .int .i64 2, .slice none 0 0])]⟩, [], [Value.bool (decide ((n : Int) ≥ 0)) = .bool false], by kernel_rfl, (.cons (cbF (by omega)) .nil), ?_⟩
    refine rt (.bool false) [] [] (fun W hW => ?_)
    have hg : fitF 45 n cd = false := by
      unfold fitF
      rw [decide_eq_false]
      have hm : mostF 45 cd = 0 := rfl
      rw [hm]
      omega
    rw [hg]
    exact ⟨rfl, (hW.old 0 rfl)⟩
  · skip
    refine enter (args := [.int .u8 45, .int .i64 n, .agg #[.int .i64 4, .int .i64 0, .int .i64 2, .slice none 0 0], .int .i64 cd]) (fn := Try.f52) rfl (c := bdy Try.f52) (by kernel_rfl) ?_
    refine ck 27 [] [(20, .bool true), (24, .bool false)] fun γ1 => ⟨⟨kt (bdy Try.f52) [1, 1, 1, 1] [], (fits_45_1_b3 n cd γ1), [(γ1 0, 51, [.int .i64 4, .int .i64 0, .int .i64 2, .slice none 0 0])]⟩, [], [Value.bool (decide ((n : Int) ≥ 0)) = .bool true, Value.bool (decide ((n : Int) ≤ 0)) = .bool false], by kernel_rfl, (.cons (cbT (by omega)) (.cons (cbF (by omega)) .nil)), ?_⟩
    refine rt (.bool false) [] [] (fun W hW => ?_)
    have hg : fitF 45 n cd = false := by
      unfold fitF
      rw [decide_eq_false]
      have hm : mostF 45 cd = 0 := rfl
      rw [hm]
      omega
    rw [hg]
    exact ⟨rfl, (hW.old 0 rfl)⟩
  · skip
    refine enter (args := [.int .u8 45, .int .i64 n, .agg #[.int .i64 4, .int .i64 0, .int .i64 2, .slice none 0 0], .int .i64 cd]) (fn := Try.f52) rfl (c := bdy Try.f52) (by kernel_rfl) ?_
    refine ck 27 [] [(20, .bool true), (24, .bool true)] fun γ1 => ⟨⟨kt (bdy Try.f52) [1, 1, 1, 1] [], (fits_45_2_b3 n cd γ1), [(γ1 0, 51, [.int .i64 4, .int .i64 0, .int .i64 2, .slice none 0 0])]⟩, [], [Value.bool (decide ((n : Int) ≥ 0)) = .bool true, Value.bool (decide ((n : Int) ≤ 0)) = .bool true], by kernel_rfl, (.cons (cbT (by omega)) (.cons (cbT (by omega)) .nil)), ?_⟩
    refine rt (.bool true) [] [] (fun W hW => ?_)
    have hg : fitF 45 n cd = true := by
      unfold fitF
      rw [decide_eq_true]
      have hm : mostF 45 cd = 0 := rfl
      rw [hm]
      omega
    rw [hg]
    exact ⟨rfl, (hW.old 0 rfl)⟩
theorem fits_is {l n cd : Int} {b : Bool} (hl : okL l) (h : fitF l n cd = b) (w : World) : Calls Try.prog 52 #[.int .u8 l, .int .i64 n, .agg #[.int .i64 4, .int .i64 0, .int .i64 2, .slice none 0 0], .int .i64 cd] w fun e w' => e = .returned (.bool b) ∧ Below w.heap.size w w' := by
  subst h
  rcases hl with rfl | rfl | rfl | rfl | rfl | rfl | rfl
  · exact fits_110 n cd w
  · exact fits_114 n cd w
  · exact fits_103 n cd w
  · exact fits_115 n cd w
  · exact fits_102 n cd w
  · exact fits_116 n cd w
  · exact fits_45 n cd w
end Go.Proofs.Ythcmcekjgecnhab.Sr
