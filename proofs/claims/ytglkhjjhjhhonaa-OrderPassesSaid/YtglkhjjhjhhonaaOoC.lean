/- Bounds; few places. No condition beside those that each theorem names. -/
import Derived.Test.YtglkhjjhjhhonaaOoB
namespace Go.Proofs.Ytglkhjjhjhhonaa.Sr
open Go.RowKit Go.Proofs.YtglkhjjhjhhonaaM.Mach
set_option linter.unusedVariables false
set_option linter.unusedSimpArgs false
def tN (th : Int) : Nat := if th < 0 then 0 else if 4 < th then 4 else th.toNat
theorem tN_le (th : Int) : tN th ≤ 4 := by
  unfold tN
  split
  · omega
  · split <;> omega
theorem tN_0 {th : Int} (h : th < 0) : ((tN th : Nat) : Int) = 0 := by
  unfold tN
  rw [if_pos h]
  rfl
theorem tN_4 {th : Int} (h : 4 < th) : ((tN th : Nat) : Int) = 4 := by
  unfold tN
  rw [if_neg (by omega), if_pos h]
  rfl
theorem tN_m {th : Int} (h : 0 ≤ th ∧ th ≤ 4) : ((tN th : Nat) : Int) = th := by
  unfold tN
  rw [if_neg (by omega), if_neg (by omega)]
  omega
theorem clampt_is (th : Int) (w : World) : Calls Try.prog 26 #[.int .i64 th, .int .i64 0, .int .i64 4] w fun e w' => e = .returned (.int .i64 ((tN th : Nat) : Int)) ∧ Below w.heap.size w w' := by
  have e : clampF th 0 4 = ((tN th : Nat) : Int) := by
    unfold clampF tN
    split
    · rfl
    · split
      · rfl
      · omega
  rw [← e]
  exact clamp_is th 0 4 w
/-- A number from 0 to below n. -/
def lowN (x : Int) (n : Nat) : Nat := if x.tmod (n : Int) < 0 then (x.tmod (n : Int) + (n : Int)).toNat else (x.tmod (n : Int)).toNat
theorem tmod_rng (x : Int) {n : Nat} (hn : 0 < n) : -(n : Int) < x.tmod (n : Int) ∧ x.tmod (n : Int) < (n : Int) := by
  have h1 := Int.tmod_lt_of_pos x (show (0 : Int) < (n : Int) by omega)
  have h2 := Int.lt_tmod_of_pos x (show (0 : Int) < (n : Int) by omega)
  exact ⟨h2, h1⟩
theorem lowN_lt (x : Int) {n : Nat} (hn : 0 < n) : lowN x n < n := by
  have := tmod_rng x hn
  unfold lowN
  split <;> omega
theorem lowN_neg {x : Int} {n : Nat} (hn : 0 < n) (h : x.tmod (n : Int) < 0) : ((lowN x n : Nat) : Int) = x.tmod (n : Int) + (n : Int) := by
  have := tmod_rng x hn
  unfold lowN
  rw [if_pos h]
  omega
theorem lowN_pos {x : Int} {n : Nat} (h : ¬ x.tmod (n : Int) < 0) : ((lowN x n : Nat) : Int) = x.tmod (n : Int) := by
  unfold lowN
  rw [if_neg h]
  omega
def neart_is_0_l0 (th : Int) : List Value := [.int .i64 th, .int .i64 0, .int .i64 4, zz, zz, zz, .int .i64 0, .int .i64 th, .int .i64 0, .bool true, .int .i64 0, zz, zz, zz, zz, zz]
def neart_is_1_l0 (th : Int) : List Value := [.int .i64 th, .int .i64 0, .int .i64 4, zz, zz, zz, .int .i64 4, .int .i64 th, .int .i64 0, .bool false, zz, .int .i64 th, .int .i64 4, .bool true, .int .i64 4, zz]
def neart_is_2_l0 (th : Int) : List Value := [.int .i64 th, .int .i64 0, .int .i64 4, zz, zz, zz, .int .i64 th, .int .i64 th, .int .i64 0, .bool false, zz, .int .i64 th, .int .i64 4, .bool false, zz, .int .i64 th]
set_option maxHeartbeats 8000000 in
set_option maxRecDepth 100000 in
theorem neart_is (th : Int) (w : World) : Calls Try.prog 14 #[.int .i64 th, .int .i64 0, .int .i64 4] w fun e w' => e = .returned (.int .i64 ((tN th : Nat) : Int)) ∧ Below w.heap.size w w' := by
  have hc : th < 0 ∨ 4 < th ∨ (0 ≤ th ∧ th ≤ 4) := by omega
  rcases hc with hc | hc | hc
  · skip
    refine enter (args := [.int .i64 th, .int .i64 0, .int .i64 4]) (fn := Try.f14) rfl (c := bdy Try.f14) (by kernel_rfl) ?_
    refine ck 6 [] [(3, .bool true)] fun γ1 => ⟨⟨kt (bdy Try.f14) [1, 0, 1, 0, 1] [], (neart_is_0_l0 th), []⟩, [], [Value.bool (decide ((th : Int) < 0)) = .bool true], by kernel_rfl, (.cons (cbT (by omega)) .nil), ?_⟩
    refine rt (.int .i64 0) [] [] (fun W hW => ?_)
    exact ⟨by rw [tN_0 hc], (hW.old 0 rfl)⟩
  · skip
    refine enter (args := [.int .i64 th, .int .i64 0, .int .i64 4]) (fn := Try.f14) rfl (c := bdy Try.f14) (by kernel_rfl) ?_
    refine ck 9 [] [(3, .bool false), (6, .bool true)] fun γ1 => ⟨⟨kt (bdy Try.f14) [1, 1, 0, 1, 0, 1] [], (neart_is_1_l0 th), []⟩, [], [Value.bool (decide ((th : Int) < 0)) = .bool false, Value.bool (decide ((th : Int) > 4)) = .bool true], by kernel_rfl, (.cons (cbF (by omega)) (.cons (cbT (by omega)) .nil)), ?_⟩
    refine rt (.int .i64 4) [] [] (fun W hW => ?_)
    exact ⟨by rw [tN_4 hc], (hW.old 0 rfl)⟩
  · skip
    refine enter (args := [.int .i64 th, .int .i64 0, .int .i64 4]) (fn := Try.f14) rfl (c := bdy Try.f14) (by kernel_rfl) ?_
    refine ck 9 [] [(3, .bool false), (6, .bool false)] fun γ1 => ⟨⟨kt (bdy Try.f14) [1, 1, 1, 1] [], (neart_is_2_l0 th), []⟩, [], [Value.bool (decide ((th : Int) < 0)) = .bool false, Value.bool (decide ((th : Int) > 4)) = .bool false], by kernel_rfl, (.cons (cbF (by omega)) (.cons (cbF (by omega)) .nil)), ?_⟩
    refine rt (.int .i64 th) [] [] (fun W hW => ?_)
    exact ⟨by rw [tN_m hc], (hW.old 0 rfl)⟩
def low_1_0_l0 (x : Int) : List Value := [.int .i64 x, .int .i64 1, zz, zz, .int .i64 (Int.tmod x 1 + 1), .int .i64 (Int.tmod x 1), .int .i64 x, .int .i64 1, .int .i64 (Int.tmod x 1), .int .i64 (Int.tmod x 1), .bool true, .int .i64 (Int.tmod x 1), .int .i64 1, .int .i64 (Int.tmod x 1 + 1), zz]
def low_1_1_l0 (x : Int) : List Value := [.int .i64 x, .int .i64 1, zz, zz, .int .i64 (Int.tmod x 1), .int .i64 (Int.tmod x 1), .int .i64 x, .int .i64 1, .int .i64 (Int.tmod x 1), .int .i64 (Int.tmod x 1), .bool false, zz, zz, zz, .int .i64 (Int.tmod x 1)]
set_option maxHeartbeats 8000000 in
set_option maxRecDepth 100000 in
theorem low_1 (x : Int) (w : World) : Calls Try.prog 12 #[.int .i64 x, .int .i64 1] w fun e w' => e = .returned (.int .i64 ((lowN x 1 : Nat) : Int)) ∧ Below w.heap.size w w' := by
  by_cases hc : Int.tmod x 1 < 0
  · skip
    refine enter (args := [.int .i64 x, .int .i64 1]) (fn := Try.f12) rfl (c := bdy Try.f12) (by kernel_rfl) ?_
    refine ck 11 [] [(6, .bool true), (9, .int .i64 (Int.tmod x 1 + 1))] fun γ1 => ⟨⟨kt (bdy Try.f12) [1, 1, 0, 1, 0, 1] [], (low_1_0_l0 x), []⟩, [], [Value.bool (decide (((Int.tmod x 1) : Int) < 0)) = .bool true, Value.int .i64 (IntKind.wrap .i64 ((Int.tmod x 1) + 1)) = .int .i64 (Int.tmod x 1 + 1)], by kernel_rfl, (.cons (cbT (by omega)) (.cons (congrArg (Value.int .i64) (by have h9 : -(1 : Int) < Int.tmod x 1 ∧ Int.tmod x 1 < 1 := tmod_rng x (n := 1) (by omega); rw [IntKind.wrap_i64]; omega)) .nil)), ?_⟩
    refine rt (.int .i64 (Int.tmod x 1 + 1)) [] [] (fun W hW => ?_)
    exact ⟨congrArg (fun z => Ending.returned (Value.int .i64 z)) (lowN_neg (n := 1) (by omega) hc).symm, (hW.old 0 rfl)⟩
  · skip
    refine enter (args := [.int .i64 x, .int .i64 1]) (fn := Try.f12) rfl (c := bdy Try.f12) (by kernel_rfl) ?_
    refine ck 9 [] [(6, .bool false)] fun γ1 => ⟨⟨kt (bdy Try.f12) [1, 1, 1, 1] [], (low_1_1_l0 x), []⟩, [], [Value.bool (decide (((Int.tmod x 1) : Int) < 0)) = .bool false], by kernel_rfl, (.cons (cbF (by omega)) .nil), ?_⟩
    refine rt (.int .i64 (Int.tmod x 1)) [] [] (fun W hW => ?_)
    exact ⟨congrArg (fun z => Ending.returned (Value.int .i64 z)) (lowN_pos (n := 1) hc).symm, (hW.old 0 rfl)⟩
def low_2_0_l0 (x : Int) : List Value := [.int .i64 x, .int .i64 2, zz, zz, .int .i64 (Int.tmod x 2 + 2), .int .i64 (Int.tmod x 2), .int .i64 x, .int .i64 2, .int .i64 (Int.tmod x 2), .int .i64 (Int.tmod x 2), .bool true, .int .i64 (Int.tmod x 2), .int .i64 2, .int .i64 (Int.tmod x 2 + 2), zz]
def low_2_1_l0 (x : Int) : List Value := [.int .i64 x, .int .i64 2, zz, zz, .int .i64 (Int.tmod x 2), .int .i64 (Int.tmod x 2), .int .i64 x, .int .i64 2, .int .i64 (Int.tmod x 2), .int .i64 (Int.tmod x 2), .bool false, zz, zz, zz, .int .i64 (Int.tmod x 2)]
set_option maxHeartbeats 8000000 in
set_option maxRecDepth 100000 in
theorem low_2 (x : Int) (w : World) : Calls Try.prog 12 #[.int .i64 x, .int .i64 2] w fun e w' => e = .returned (.int .i64 ((lowN x 2 : Nat) : Int)) ∧ Below w.heap.size w w' := by
  by_cases hc : Int.tmod x 2 < 0
  · skip
    refine enter (args := [.int .i64 x, .int .i64 2]) (fn := Try.f12) rfl (c := bdy Try.f12) (by kernel_rfl) ?_
    refine ck 11 [] [(6, .bool true), (9, .int .i64 (Int.tmod x 2 + 2))] fun γ1 => ⟨⟨kt (bdy Try.f12) [1, 1, 0, 1, 0, 1] [], (low_2_0_l0 x), []⟩, [], [Value.bool (decide (((Int.tmod x 2) : Int) < 0)) = .bool true, Value.int .i64 (IntKind.wrap .i64 ((Int.tmod x 2) + 2)) = .int .i64 (Int.tmod x 2 + 2)], by kernel_rfl, (.cons (cbT (by omega)) (.cons (congrArg (Value.int .i64) (by have h9 : -(2 : Int) < Int.tmod x 2 ∧ Int.tmod x 2 < 2 := tmod_rng x (n := 2) (by omega); rw [IntKind.wrap_i64]; omega)) .nil)), ?_⟩
    refine rt (.int .i64 (Int.tmod x 2 + 2)) [] [] (fun W hW => ?_)
    exact ⟨congrArg (fun z => Ending.returned (Value.int .i64 z)) (lowN_neg (n := 2) (by omega) hc).symm, (hW.old 0 rfl)⟩
  · skip
    refine enter (args := [.int .i64 x, .int .i64 2]) (fn := Try.f12) rfl (c := bdy Try.f12) (by kernel_rfl) ?_
    refine ck 9 [] [(6, .bool false)] fun γ1 => ⟨⟨kt (bdy Try.f12) [1, 1, 1, 1] [], (low_2_1_l0 x), []⟩, [], [Value.bool (decide (((Int.tmod x 2) : Int) < 0)) = .bool false], by kernel_rfl, (.cons (cbF (by omega)) .nil), ?_⟩
    refine rt (.int .i64 (Int.tmod x 2)) [] [] (fun W hW => ?_)
    exact ⟨congrArg (fun z => Ending.returned (Value.int .i64 z)) (lowN_pos (n := 2) hc).symm, (hW.old 0 rfl)⟩
def low_3_0_l0 (x : Int) : List Value := [.int .i64 x, .int .i64 3, zz, zz, .int .i64 (Int.tmod x 3 + 3), .int .i64 (Int.tmod x 3), .int .i64 x, .int .i64 3, .int .i64 (Int.tmod x 3), .int .i64 (Int.tmod x 3), .bool true, .int .i64 (Int.tmod x 3), .int .i64 3, .int .i64 (Int.tmod x 3 + 3), zz]
def low_3_1_l0 (x : Int) : List Value := [.int .i64 x, .int .i64 3, zz, zz, .int .i64 (Int.tmod x 3), .int .i64 (Int.tmod x 3), .int .i64 x, .int .i64 3, .int .i64 (Int.tmod x 3), .int .i64 (Int.tmod x 3), .bool false, zz, zz, zz, .int .i64 (Int.tmod x 3)]
set_option maxHeartbeats 8000000 in
set_option maxRecDepth 100000 in
theorem low_3 (x : Int) (w : World) : Calls Try.prog 12 #[.int .i64 x, .int .i64 3] w fun e w' => e = .returned (.int .i64 ((lowN x 3 : Nat) : Int)) ∧ Below w.heap.size w w' := by
  by_cases hc : Int.tmod x 3 < 0
  · skip
    refine enter (args := [.int .i64 x, .int .i64 3]) (fn := Try.f12) rfl (c := bdy Try.f12) (by kernel_rfl) ?_
    refine ck 11 [] [(6, .bool true), (9, .int .i64 (Int.tmod x 3 + 3))] fun γ1 => ⟨⟨kt (bdy Try.f12) [1, 1, 0, 1, 0, 1] [], (low_3_0_l0 x), []⟩, [], [Value.bool (decide (((Int.tmod x 3) : Int) < 0)) = .bool true, Value.int .i64 (IntKind.wrap .i64 ((Int.tmod x 3) + 3)) = .int .i64 (Int.tmod x 3 + 3)], by kernel_rfl, (.cons (cbT (by omega)) (.cons (congrArg (Value.int .i64) (by have h9 : -(3 : Int) < Int.tmod x 3 ∧ Int.tmod x 3 < 3 := tmod_rng x (n := 3) (by omega); rw [IntKind.wrap_i64]; omega)) .nil)), ?_⟩
    refine rt (.int .i64 (Int.tmod x 3 + 3)) [] [] (fun W hW => ?_)
    exact ⟨congrArg (fun z => Ending.returned (Value.int .i64 z)) (lowN_neg (n := 3) (by omega) hc).symm, (hW.old 0 rfl)⟩
  · skip
    refine enter (args := [.int .i64 x, .int .i64 3]) (fn := Try.f12) rfl (c := bdy Try.f12) (by kernel_rfl) ?_
    refine ck 9 [] [(6, .bool false)] fun γ1 => ⟨⟨kt (bdy Try.f12) [1, 1, 1, 1] [], (low_3_1_l0 x), []⟩, [], [Value.bool (decide (((Int.tmod x 3) : Int) < 0)) = .bool false], by kernel_rfl, (.cons (cbF (by omega)) .nil), ?_⟩
    refine rt (.int .i64 (Int.tmod x 3)) [] [] (fun W hW => ?_)
    exact ⟨congrArg (fun z => Ending.returned (Value.int .i64 z)) (lowN_pos (n := 3) hc).symm, (hW.old 0 rfl)⟩
def low_4_0_l0 (x : Int) : List Value := [.int .i64 x, .int .i64 4, zz, zz, .int .i64 (Int.tmod x 4 + 4), .int .i64 (Int.tmod x 4), .int .i64 x, .int .i64 4, .int .i64 (Int.tmod x 4), .int .i64 (Int.tmod x 4), .bool true, .int .i64 (Int.tmod x 4), .int .i64 4, .int .i64 (Int.tmod x 4 + 4), zz]
def low_4_1_l0 (x : Int) : List Value := [.int .i64 x, .int .i64 4, zz, zz, .int .i64 (Int.tmod x 4), .int .i64 (Int.tmod x 4), .int .i64 x, .int .i64 4, .int .i64 (Int.tmod x 4), .int .i64 (Int.tmod x 4), .bool false, zz, zz, zz, .int .i64 (Int.tmod x 4)]
set_option maxHeartbeats 8000000 in
set_option maxRecDepth 100000 in
theorem low_4 (x : Int) (w : World) : Calls Try.prog 12 #[.int .i64 x, .int .i64 4] w fun e w' => e = .returned (.int .i64 ((lowN x 4 : Nat) : Int)) ∧ Below w.heap.size w w' := by
  by_cases hc : Int.tmod x 4 < 0
  · skip
    refine enter (args := [.int .i64 x, .int .i64 4]) (fn := Try.f12) rfl (c := bdy Try.f12) (by kernel_rfl) ?_
    refine ck 11 [] [(6, .bool true), (9, .int .i64 (Int.tmod x 4 + 4))] fun γ1 => ⟨⟨kt (bdy Try.f12) [1, 1, 0, 1, 0, 1] [], (low_4_0_l0 x), []⟩, [], [Value.bool (decide (((Int.tmod x 4) : Int) < 0)) = .bool true, Value.int .i64 (IntKind.wrap .i64 ((Int.tmod x 4) + 4)) = .int .i64 (Int.tmod x 4 + 4)], by kernel_rfl, (.cons (cbT (by omega)) (.cons (congrArg (Value.int .i64) (by have h9 : -(4 : Int) < Int.tmod x 4 ∧ Int.tmod x 4 < 4 := tmod_rng x (n := 4) (by omega); rw [IntKind.wrap_i64]; omega)) .nil)), ?_⟩
    refine rt (.int .i64 (Int.tmod x 4 + 4)) [] [] (fun W hW => ?_)
    exact ⟨congrArg (fun z => Ending.returned (Value.int .i64 z)) (lowN_neg (n := 4) (by omega) hc).symm, (hW.old 0 rfl)⟩
  · skip
    refine enter (args := [.int .i64 x, .int .i64 4]) (fn := Try.f12) rfl (c := bdy Try.f12) (by kernel_rfl) ?_
    refine ck 9 [] [(6, .bool false)] fun γ1 => ⟨⟨kt (bdy Try.f12) [1, 1, 1, 1] [], (low_4_1_l0 x), []⟩, [], [Value.bool (decide (((Int.tmod x 4) : Int) < 0)) = .bool false], by kernel_rfl, (.cons (cbF (by omega)) .nil), ?_⟩
    refine rt (.int .i64 (Int.tmod x 4)) [] [] (fun W hW => ?_)
    exact ⟨congrArg (fun z => Ending.returned (Value.int .i64 z)) (lowN_pos (n := 4) hc).symm, (hW.old 0 rfl)⟩
def low_5_0_l0 (x : Int) : List Value := [.int .i64 x, .int .i64 5, zz, zz, .int .i64 (Int.tmod x 5 + 5), .int .i64 (Int.tmod x 5), .int .i64 x, .int .i64 5, .int .i64 (Int.tmod x 5), .int .i64 (Int.tmod x 5), .bool true, .int .i64 (Int.tmod x 5), .int .i64 5, .int .i64 (Int.tmod x 5 + 5), zz]
def low_5_1_l0 (x : Int) : List Value := [.int .i64 x, .int .i64 5, zz, zz, .int .i64 (Int.tmod x 5), .int .i64 (Int.tmod x 5), .int .i64 x, .int .i64 5, .int .i64 (Int.tmod x 5), .int .i64 (Int.tmod x 5), .bool false, zz, zz, zz, .int .i64 (Int.tmod x 5)]
set_option maxHeartbeats 8000000 in
set_option maxRecDepth 100000 in
theorem low_5 (x : Int) (w : World) : Calls Try.prog 12 #[.int .i64 x, .int .i64 5] w fun e w' => e = .returned (.int .i64 ((lowN x 5 : Nat) : Int)) ∧ Below w.heap.size w w' := by
  by_cases hc : Int.tmod x 5 < 0
  · skip
    refine enter (args := [.int .i64 x, .int .i64 5]) (fn := Try.f12) rfl (c := bdy Try.f12) (by kernel_rfl) ?_
    refine ck 11 [] [(6, .bool true), (9, .int .i64 (Int.tmod x 5 + 5))] fun γ1 => ⟨⟨kt (bdy Try.f12) [1, 1, 0, 1, 0, 1] [], (low_5_0_l0 x), []⟩, [], [Value.bool (decide (((Int.tmod x 5) : Int) < 0)) = .bool true, Value.int .i64 (IntKind.wrap .i64 ((Int.tmod x 5) + 5)) = .int .i64 (Int.tmod x 5 + 5)], by kernel_rfl, (.cons (cbT (by omega)) (.cons (congrArg (Value.int .i64) (by have h9 : -(5 : Int) < Int.tmod x 5 ∧ Int.tmod x 5 < 5 := tmod_rng x (n := 5) (by omega); rw [IntKind.wrap_i64]; omega)) .nil)), ?_⟩
    refine rt (.int .i64 (Int.tmod x 5 + 5)) [] [] (fun W hW => ?_)
    exact ⟨congrArg (fun z => Ending.returned (Value.int .i64 z)) (lowN_neg (n := 5) (by omega) hc).symm, (hW.old 0 rfl)⟩
  · skip
    refine enter (args := [.int .i64 x, .int .i64 5]) (fn := Try.f12) rfl (c := bdy Try.f12) (by kernel_rfl) ?_
    refine ck 9 [] [(6, .bool false)] fun γ1 => ⟨⟨kt (bdy Try.f12) [1, 1, 1, 1] [], (low_5_1_l0 x), []⟩, [], [Value.bool (decide (((Int.tmod x 5) : Int) < 0)) = .bool false], by kernel_rfl, (.cons (cbF (by omega)) .nil), ?_⟩
    refine rt (.int .i64 (Int.tmod x 5)) [] [] (fun W hW => ?_)
    exact ⟨congrArg (fun z => Ending.returned (Value.int .i64 z)) (lowN_pos (n := 5) hc).symm, (hW.old 0 rfl)⟩
def low_6_0_l0 (x : Int) : List Value := [.int .i64 x, .int .i64 6, zz, zz, .int .i64 (Int.tmod x 6 + 6), .int .i64 (Int.tmod x 6), .int .i64 x, .int .i64 6, .int .i64 (Int.tmod x 6), .int .i64 (Int.tmod x 6), .bool true, .int .i64 (Int.tmod x 6), .int .i64 6, .int .i64 (Int.tmod x 6 + 6), zz]
def low_6_1_l0 (x : Int) : List Value := [.int .i64 x, .int .i64 6, zz, zz, .int .i64 (Int.tmod x 6), .int .i64 (Int.tmod x 6), .int .i64 x, .int .i64 6, .int .i64 (Int.tmod x 6), .int .i64 (Int.tmod x 6), .bool false, zz, zz, zz, .int .i64 (Int.tmod x 6)]
set_option maxHeartbeats 8000000 in
set_option maxRecDepth 100000 in
theorem low_6 (x : Int) (w : World) : Calls Try.prog 12 #[.int .i64 x, .int .i64 6] w fun e w' => e = .returned (.int .i64 ((lowN x 6 : Nat) : Int)) ∧ Below w.heap.size w w' := by
  by_cases hc : Int.tmod x 6 < 0
  · skip
    refine enter (args := [.int .i64 x, .int .i64 6]) (fn := Try.f12) rfl (c := bdy Try.f12) (by kernel_rfl) ?_
    refine ck 11 [] [(6, .bool true), (9, .int .i64 (Int.tmod x 6 + 6))] fun γ1 => ⟨⟨kt (bdy Try.f12) [1, 1, 0, 1, 0, 1] [], (low_6_0_l0 x), []⟩, [], [Value.bool (decide (((Int.tmod x 6) : Int) < 0)) = .bool true, Value.int .i64 (IntKind.wrap .i64 ((Int.tmod x 6) + 6)) = .int .i64 (Int.tmod x 6 + 6)], by kernel_rfl, (.cons (cbT (by omega)) (.cons (congrArg (Value.int .i64) (by have h9 : -(6 : Int) < Int.tmod x 6 ∧ Int.tmod x 6 < 6 := tmod_rng x (n := 6) (by omega); rw [IntKind.wrap_i64]; omega)) .nil)), ?_⟩
    refine rt (.int .i64 (Int.tmod x 6 + 6)) [] [] (fun W hW => ?_)
    exact ⟨congrArg (fun z => Ending.returned (Value.int .i64 z)) (lowN_neg (n := 6) (by omega) hc).symm, (hW.old 0 rfl)⟩
  · skip
    refine enter (args := [.int .i64 x, .int .i64 6]) (fn := Try.f12) rfl (c := bdy Try.f12) (by kernel_rfl) ?_
    refine ck 9 [] [(6, .bool false)] fun γ1 => ⟨⟨kt (bdy Try.f12) [1, 1, 1, 1] [], (low_6_1_l0 x), []⟩, [], [Value.bool (decide (((Int.tmod x 6) : Int) < 0)) = .bool false], by kernel_rfl, (.cons (cbF (by omega)) .nil), ?_⟩
    refine rt (.int .i64 (Int.tmod x 6)) [] [] (fun W hW => ?_)
    exact ⟨congrArg (fun z => Ending.returned (Value.int .i64 z)) (lowN_pos (n := 6) hc).symm, (hW.old 0 rfl)⟩
def low_7_0_l0 (x : Int) : List Value := [.int .i64 x, .int .i64 7, zz, zz, .int .i64 (Int.tmod x 7 + 7), .int .i64 (Int.tmod x 7), .int .i64 x, .int .i64 7, .int .i64 (Int.tmod x 7), .int .i64 (Int.tmod x 7), .bool true, .int .i64 (Int.tmod x 7), .int .i64 7, .int .i64 (Int.tmod x 7 + 7), zz]
def low_7_1_l0 (x : Int) : List Value := [.int .i64 x, .int .i64 7, zz, zz, .int .i64 (Int.tmod x 7), .int .i64 (Int.tmod x 7), .int .i64 x, .int .i64 7, .int .i64 (Int.tmod x 7), .int .i64 (Int.tmod x 7), .bool false, zz, zz, zz, .int .i64 (Int.tmod x 7)]
set_option maxHeartbeats 8000000 in
set_option maxRecDepth 100000 in
theorem low_7 (x : Int) (w : World) : Calls Try.prog 12 #[.int .i64 x, .int .i64 7] w fun e w' => e = .returned (.int .i64 ((lowN x 7 : Nat) : Int)) ∧ Below w.heap.size w w' := by
  by_cases hc : Int.tmod x 7 < 0
  · skip
    refine enter (args := [.int .i64 x, .int .i64 7]) (fn := Try.f12) rfl (c := bdy Try.f12) (by kernel_rfl) ?_
    refine ck 11 [] [(6, .bool true), (9, .int .i64 (Int.tmod x 7 + 7))] fun γ1 => ⟨⟨kt (bdy Try.f12) [1, 1, 0, 1, 0, 1] [], (low_7_0_l0 x), []⟩, [], [Value.bool (decide (((Int.tmod x 7) : Int) < 0)) = .bool true, Value.int .i64 (IntKind.wrap .i64 ((Int.tmod x 7) + 7)) = .int .i64 (Int.tmod x 7 + 7)], by kernel_rfl, (.cons (cbT (by omega)) (.cons (congrArg (Value.int .i64) (by have h9 : -(7 : Int) < Int.tmod x 7 ∧ Int.tmod x 7 < 7 := tmod_rng x (n := 7) (by omega); rw [IntKind.wrap_i64]; omega)) .nil)), ?_⟩
    refine rt (.int .i64 (Int.tmod x 7 + 7)) [] [] (fun W hW => ?_)
    exact ⟨congrArg (fun z => Ending.returned (Value.int .i64 z)) (lowN_neg (n := 7) (by omega) hc).symm, (hW.old 0 rfl)⟩
  · skip
    refine enter (args := [.int .i64 x, .int .i64 7]) (fn := Try.f12) rfl (c := bdy Try.f12) (by kernel_rfl) ?_
    refine ck 9 [] [(6, .bool false)] fun γ1 => ⟨⟨kt (bdy Try.f12) [1, 1, 1, 1] [], (low_7_1_l0 x), []⟩, [], [Value.bool (decide (((Int.tmod x 7) : Int) < 0)) = .bool false], by kernel_rfl, (.cons (cbF (by omega)) .nil), ?_⟩
    refine rt (.int .i64 (Int.tmod x 7)) [] [] (fun W hW => ?_)
    exact ⟨congrArg (fun z => Ending.returned (Value.int .i64 z)) (lowN_pos (n := 7) hc).symm, (hW.old 0 rfl)⟩
def low_8_0_l0 (x : Int) : List Value := [.int .i64 x, .int .i64 8, zz, zz, .int .i64 (Int.tmod x 8 + 8), .int .i64 (Int.tmod x 8), .int .i64 x, .int .i64 8, .int .i64 (Int.tmod x 8), .int .i64 (Int.tmod x 8), .bool true, .int .i64 (Int.tmod x 8), .int .i64 8, .int .i64 (Int.tmod x 8 + 8), zz]
def low_8_1_l0 (x : Int) : List Value := [.int .i64 x, .int .i64 8, zz, zz, .int .i64 (Int.tmod x 8), .int .i64 (Int.tmod x 8), .int .i64 x, .int .i64 8, .int .i64 (Int.tmod x 8), .int .i64 (Int.tmod x 8), .bool false, zz, zz, zz, .int .i64 (Int.tmod x 8)]
set_option maxHeartbeats 8000000 in
set_option maxRecDepth 100000 in
theorem low_8 (x : Int) (w : World) : Calls Try.prog 12 #[.int .i64 x, .int .i64 8] w fun e w' => e = .returned (.int .i64 ((lowN x 8 : Nat) : Int)) ∧ Below w.heap.size w w' := by
  by_cases hc : Int.tmod x 8 < 0
  · skip
    refine enter (args := [.int .i64 x, .int .i64 8]) (fn := Try.f12) rfl (c := bdy Try.f12) (by kernel_rfl) ?_
    refine ck 11 [] [(6, .bool true), (9, .int .i64 (Int.tmod x 8 + 8))] fun γ1 => ⟨⟨kt (bdy Try.f12) [1, 1, 0, 1, 0, 1] [], (low_8_0_l0 x), []⟩, [], [Value.bool (decide (((Int.tmod x 8) : Int) < 0)) = .bool true, Value.int .i64 (IntKind.wrap .i64 ((Int.tmod x 8) + 8)) = .int .i64 (Int.tmod x 8 + 8)], by kernel_rfl, (.cons (cbT (by omega)) (.cons (congrArg (Value.int .i64) (by have h9 : -(8 : Int) < Int.tmod x 8 ∧ Int.tmod x 8 < 8 := tmod_rng x (n := 8) (by omega); rw [IntKind.wrap_i64]; omega)) .nil)), ?_⟩
    refine rt (.int .i64 (Int.tmod x 8 + 8)) [] [] (fun W hW => ?_)
    exact ⟨congrArg (fun z => Ending.returned (Value.int .i64 z)) (lowN_neg (n := 8) (by omega) hc).symm, (hW.old 0 rfl)⟩
  · skip
    refine enter (args := [.int .i64 x, .int .i64 8]) (fn := Try.f12) rfl (c := bdy Try.f12) (by kernel_rfl) ?_
    refine ck 9 [] [(6, .bool false)] fun γ1 => ⟨⟨kt (bdy Try.f12) [1, 1, 1, 1] [], (low_8_1_l0 x), []⟩, [], [Value.bool (decide (((Int.tmod x 8) : Int) < 0)) = .bool false], by kernel_rfl, (.cons (cbF (by omega)) .nil), ?_⟩
    refine rt (.int .i64 (Int.tmod x 8)) [] [] (fun W hW => ?_)
    exact ⟨congrArg (fun z => Ending.returned (Value.int .i64 z)) (lowN_pos (n := 8) hc).symm, (hW.old 0 rfl)⟩
def low_9_0_l0 (x : Int) : List Value := [.int .i64 x, .int .i64 9, zz, zz, .int .i64 (Int.tmod x 9 + 9), .int .i64 (Int.tmod x 9), .int .i64 x, .int .i64 9, .int .i64 (Int.tmod x 9), .int .i64 (Int.tmod x 9), .bool true, .int .i64 (Int.tmod x 9), .int .i64 9, .int .i64 (Int.tmod x 9 + 9), zz]
def low_9_1_l0 (x : Int) : List Value := [.int .i64 x, .int .i64 9, zz, zz, .int .i64 (Int.tmod x 9), .int .i64 (Int.tmod x 9), .int .i64 x, .int .i64 9, .int .i64 (Int.tmod x 9), .int .i64 (Int.tmod x 9), .bool false, zz, zz, zz, .int .i64 (Int.tmod x 9)]
set_option maxHeartbeats 8000000 in
set_option maxRecDepth 100000 in
theorem low_9 (x : Int) (w : World) : Calls Try.prog 12 #[.int .i64 x, .int .i64 9] w fun e w' => e = .returned (.int .i64 ((lowN x 9 : Nat) : Int)) ∧ Below w.heap.size w w' := by
  by_cases hc : Int.tmod x 9 < 0
  · skip
    refine enter (args := [.int .i64 x, .int .i64 9]) (fn := Try.f12) rfl (c := bdy Try.f12) (by kernel_rfl) ?_
    refine ck 11 [] [(6, .bool true), (9, .int .i64 (Int.tmod x 9 + 9))] fun γ1 => ⟨⟨kt (bdy Try.f12) [1, 1, 0, 1, 0, 1] [], (low_9_0_l0 x), []⟩, [], [Value.bool (decide (((Int.tmod x 9) : Int) < 0)) = .bool true, Value.int .i64 (IntKind.wrap .i64 ((Int.tmod x 9) + 9)) = .int .i64 (Int.tmod x 9 + 9)], by kernel_rfl, (.cons (cbT (by omega)) (.cons (congrArg (Value.int .i64) (by have h9 : -(9 : Int) < Int.tmod x 9 ∧ Int.tmod x 9 < 9 := tmod_rng x (n := 9) (by omega); rw [IntKind.wrap_i64]; omega)) .nil)), ?_⟩
    refine rt (.int .i64 (Int.tmod x 9 + 9)) [] [] (fun W hW => ?_)
    exact ⟨congrArg (fun z => Ending.returned (Value.int .i64 z)) (lowN_neg (n := 9) (by omega) hc).symm, (hW.old 0 rfl)⟩
  · skip
    refine enter (args := [.int .i64 x, .int .i64 9]) (fn := Try.f12) rfl (c := bdy Try.f12) (by kernel_rfl) ?_
    refine ck 9 [] [(6, .bool false)] fun γ1 => ⟨⟨kt (bdy Try.f12) [1, 1, 1, 1] [], (low_9_1_l0 x), []⟩, [], [Value.bool (decide (((Int.tmod x 9) : Int) < 0)) = .bool false], by kernel_rfl, (.cons (cbF (by omega)) .nil), ?_⟩
    refine rt (.int .i64 (Int.tmod x 9)) [] [] (fun W hW => ?_)
    exact ⟨congrArg (fun z => Ending.returned (Value.int .i64 z)) (lowN_pos (n := 9) hc).symm, (hW.old 0 rfl)⟩
theorem low_n (x : Int) (n : Nat) (hn : 0 < n) (hn9 : n ≤ 9) (w : World) : Calls Try.prog 12 #[.int .i64 x, .int .i64 ((n : Nat) : Int)] w fun e w' => e = .returned (.int .i64 ((lowN x n : Nat) : Int)) ∧ Below w.heap.size w w' := by
  rcases (show n = 1 ∨ n = 2 ∨ n = 3 ∨ n = 4 ∨ n = 5 ∨ n = 6 ∨ n = 7 ∨ n = 8 ∨ n = 9 by omega) with rfl | rfl | rfl | rfl | rfl | rfl | rfl | rfl | rfl
  · exact low_1 x w
  · exact low_2 x w
  · exact low_3 x w
  · exact low_4 x w
  · exact low_5 x w
  · exact low_6 x w
  · exact low_7 x w
  · exact low_8 x w
  · exact low_9 x w
def cutS (s : SL) : SL := (s.1, (if 3 < s.2.1 then 3 else s.2.1), s.2.2)
def cutA (x : AC) : AC := (x.1, cutS x.2.1, cutS x.2.2)
theorem cut_rd {w : World} {s : SL} {xs : List P3} (h : Rd w (slV s) 3 encT67 xs) : Rd w (slV (cutS s)) 3 encT67 (xs.take 3) ∧ (xs.take 3).length ≤ 3 := by
  obtain ⟨A, n, c⟩ := s
  have e := rdlen h
  subst e
  unfold cutS slV
  have h' : Rd w (.slice A xs.length c) 3 encT67 xs := h
  refine ⟨?_, by rw [List.length_take]; omega⟩
  simp only
  by_cases h3 : 3 < xs.length
  · rw [if_pos h3]
    have h4 := Rd.cut h' (a := 0) (b := 3) (d := c) (Nat.zero_le _) (by omega) (by have := h'.cap.2; omega)
    rw [List.drop_zero] at h4
    have e2 : cutp A 0 c 3 = A := by first | exact cutp0 .. | simp [cutp]
    rw [e2] at h4
    exact h4
  · rw [if_neg h3, List.take_of_length_le (by omega)]
    exact h'
def f1_l0 (A1 : Option Addr) (n1 : Nat) (c1 : Nat) (A2 : Option Addr) (n2 : Nat) (c2 : Nat) (γ1 : Nat → Nat) : List Value := [.agg #[.slice A1 n1 c1, .slice A2 n2 c2], .pointer (some ⟨γ1 0, 0, none⟩), .pointer (some ⟨γ1 1, 0, none⟩), zz, zz, zz, zz, zz, zz, zz, zz, zz, zz, zz, zz, zz]
def f1_l1 : List Value := [zz, zz, zz, zz]
def f1_b2 (A1 : Option Addr) (n1 : Nat) (c1 : Nat) (A2 : Option Addr) (n2 : Nat) (c2 : Nat) (γ1 : Nat → Nat) : List Value := (f1_l0 A1 n1 c1 A2 n2 c2 γ1) ++ (f1_l1)
def f1_c3 : List Value := [.slice none 0 0, .slice none 0 0]
def f1_c4 (A1 : Option Addr) (n1 : Nat) (c1 : Nat) (A2 : Option Addr) (n2 : Nat) (c2 : Nat) : List Value := [.slice A1 n1 c1, .slice A2 n2 c2]
def f1_c5 (A1 : Option Addr) (c1 : Nat) (A2 : Option Addr) (n2 : Nat) (c2 : Nat) : List Value := [.slice A1 3 c1, .slice A2 n2 c2]
def f1_l6 (A1 : Option Addr) (n1 : Nat) (c1 : Nat) (A2 : Option Addr) (n2 : Nat) (c2 : Nat) (γ1 : Nat → Nat) : List Value := [.agg #[.slice A1 n1 c1, .slice A2 n2 c2], .pointer (some ⟨γ1 0, 0, none⟩), .pointer (some ⟨γ1 1, 0, none⟩), .pointer (some ⟨γ1 0, 0, none⟩), .slice A1 n1 c1, .int .i64 ((n1 : Nat) : Int), .bool true, .pointer (some ⟨γ1 0, 0, none⟩), .slice A1 n1 c1, .slice A1 3 c1, .pointer (some ⟨γ1 0, 0, none⟩), .pointer (some ⟨γ1 0, 1, none⟩), .slice A2 n2 c2, .int .i64 ((n2 : Nat) : Int), .bool true, .pointer (some ⟨γ1 0, 1, none⟩)]
def f1_l7 (A2 : Option Addr) (n2 : Nat) (c2 : Nat) : List Value := [.slice A2 n2 c2, zz, zz, zz]
def f1_b8 (A1 : Option Addr) (n1 : Nat) (c1 : Nat) (A2 : Option Addr) (n2 : Nat) (c2 : Nat) (γ1 : Nat → Nat) : List Value := (f1_l6 A1 n1 c1 A2 n2 c2 γ1) ++ ((f1_l7 A2 n2 c2))
def f1_c9 (A1 : Option Addr) (c1 : Nat) (A2 : Option Addr) (c2 : Nat) : List Value := [.slice A1 3 c1, .slice A2 3 c2]
def f1_l10 (A1 : Option Addr) (n1 : Nat) (c1 : Nat) (A2 : Option Addr) (n2 : Nat) (c2 : Nat) (γ1 : Nat → Nat) : List Value := [.agg #[.slice A1 n1 c1, .slice A2 n2 c2], .pointer (some ⟨γ1 0, 0, none⟩), .pointer (some ⟨γ1 1, 0, none⟩), .pointer (some ⟨γ1 0, 0, none⟩), .slice A1 n1 c1, .int .i64 ((n1 : Nat) : Int), .bool true, .pointer (some ⟨γ1 0, 0, none⟩), .slice A1 n1 c1, .slice A1 3 c1, .pointer (some ⟨γ1 0, 0, none⟩), .pointer (some ⟨γ1 0, 1, none⟩), .slice A2 n2 c2, .int .i64 ((n2 : Nat) : Int), .bool false, zz]
def f1_l11 (A1 : Option Addr) (c1 : Nat) (A2 : Option Addr) (n2 : Nat) (c2 : Nat) : List Value := [zz, zz, zz, .agg #[.slice A1 3 c1, .slice A2 n2 c2]]
def f1_b12 (A1 : Option Addr) (n1 : Nat) (c1 : Nat) (A2 : Option Addr) (n2 : Nat) (c2 : Nat) (γ1 : Nat → Nat) : List Value := (f1_l10 A1 n1 c1 A2 n2 c2 γ1) ++ ((f1_l11 A1 c1 A2 n2 c2))
def f1_l13 (A1 : Option Addr) (n1 : Nat) (c1 : Nat) (A2 : Option Addr) (n2 : Nat) (c2 : Nat) (γ1 : Nat → Nat) : List Value := [.agg #[.slice A1 n1 c1, .slice A2 n2 c2], .pointer (some ⟨γ1 0, 0, none⟩), .pointer (some ⟨γ1 1, 0, none⟩), .pointer (some ⟨γ1 0, 0, none⟩), .slice A1 n1 c1, .int .i64 ((n1 : Nat) : Int), .bool false, zz, zz, zz, zz, .pointer (some ⟨γ1 0, 1, none⟩), .slice A2 n2 c2, .int .i64 ((n2 : Nat) : Int), .bool true, .pointer (some ⟨γ1 0, 1, none⟩)]
def f1_l14 (A1 : Option Addr) (n1 : Nat) (c1 : Nat) (A2 : Option Addr) (n2 : Nat) (c2 : Nat) (γ1 : Nat → Nat) : List Value := [.slice A2 n2 c2, .slice A2 3 c2, .pointer (some ⟨γ1 0, 1, none⟩), .agg #[.slice A1 n1 c1, .slice A2 3 c2]]
def f1_b15 (A1 : Option Addr) (n1 : Nat) (c1 : Nat) (A2 : Option Addr) (n2 : Nat) (c2 : Nat) (γ1 : Nat → Nat) : List Value := (f1_l13 A1 n1 c1 A2 n2 c2 γ1) ++ ((f1_l14 A1 n1 c1 A2 n2 c2 γ1))
def f1_c16 (A1 : Option Addr) (n1 : Nat) (c1 : Nat) (A2 : Option Addr) (c2 : Nat) : List Value := [.slice A1 n1 c1, .slice A2 3 c2]
set_option maxHeartbeats 8000000 in
set_option maxRecDepth 100000 in
theorem few_is {w : World} {A1 : Option Addr} {n1 c1 : Nat} {A2 : Option Addr} {n2 c2 : Nat} (h1 : n1 ≤ c1) (h2 : n2 ≤ c2) : Calls Try.prog 16 #[.agg #[.slice A1 n1 c1, .slice A2 n2 c2]] w fun e w' => e = .returned (.agg #[.slice A1 (if 3 < n1 then 3 else n1) c1, .slice A2 (if 3 < n2 then 3 else n2) c2]) ∧ Below w.heap.size w w' := by
  refine enter (args := [.agg #[.slice A1 n1 c1, .slice A2 n2 c2]]) (fn := Try.f16) rfl (c := bdy Try.f16) (by kernel_rfl) ?_
  refine ck 2 [] [] fun γ1 => ⟨⟨kt (bdy Try.f16) [1, 0, 0, 0] [], (f1_b2 A1 n1 c1 A2 n2 c2 γ1), [(γ1 1, 30, f1_c3), (γ1 0, 30, (f1_c4 A1 n1 c1 A2 n2 c2))]⟩, [], [], by kernel_rfl, .nil, ?_⟩
  by_cases hx : 3 < n1
  · skip
    have hx3 : (if 3 < n1 then 3 else n1) = 3 := if_pos hx
    refine ck 6 [(2, 1)] [(3, .bool true)] fun γ2 => ⟨⟨kt (bdy Try.f16) [1, 0, 1, 0, 2] [], upv (f1_b2 A1 n1 c1 A2 n2 c2 γ1) [(3, .pointer (some ⟨γ1 0, 0, none⟩)), (4, .slice A1 n1 c1), (5, .int .i64 ((n1 : Nat) : Int)), (6, .bool true), (7, .pointer (some ⟨γ1 0, 0, none⟩)), (8, .slice A1 n1 c1)], [(γ1 1, 30, f1_c3), (γ1 0, 30, (f1_c4 A1 n1 c1 A2 n2 c2))]⟩, [(2, γ1 0)], [Value.bool (decide ((((n1 : Nat) : Int) : Int) > 3)) = .bool true], by kernel_rfl, (.cons (cbT (by omega)) .nil), ?_⟩
    refine sl0 (A := A1) (n := n1) (c := c1) (sz := 3) (some (.int .i64 3)) none 3 c1 rfl rfl rfl (by omega) (by omega) ?_ none rfl
    refine ck 2 [(1, 1)] [] fun γ3 => ⟨⟨kt (bdy Try.f16) [1, 1, 0, 0, 0] [], upv (f1_b2 A1 n1 c1 A2 n2 c2 γ1) [(3, .pointer (some ⟨γ1 0, 0, none⟩)), (4, .slice A1 n1 c1), (5, .int .i64 ((n1 : Nat) : Int)), (6, .bool true), (7, .pointer (some ⟨γ1 0, 0, none⟩)), (8, .slice A1 n1 c1), (9, .slice A1 3 c1), (10, .pointer (some ⟨γ1 0, 0, none⟩))], [(γ1 1, 30, f1_c3), (γ1 0, 30, (f1_c5 A1 c1 A2 n2 c2))]⟩, [(1, γ1 0)], [], by kernel_rfl, .nil, ?_⟩
    by_cases hy : 3 < n2
    · skip
      have hy3 : (if 3 < n2 then 3 else n2) = 3 := if_pos hy
      refine ck 6 [(2, 1)] [(3, .bool true)] fun γ4 => ⟨⟨kt (bdy Try.f16) [1, 1, 0, 1, 0, 2] [], (f1_b8 A1 n1 c1 A2 n2 c2 γ1), [(γ1 1, 30, f1_c3), (γ1 0, 30, (f1_c5 A1 c1 A2 n2 c2))]⟩, [(2, γ1 0)], [Value.bool (decide ((((n2 : Nat) : Int) : Int) > 3)) = .bool true], by kernel_rfl, (.cons (cbT (by omega)) .nil), ?_⟩
      refine sl0 (A := A2) (n := n2) (c := c2) (sz := 3) (some (.int .i64 3)) none 3 c2 rfl rfl rfl (by omega) (by omega) ?_ none rfl
      refine ck 4 [(3, 1), (2, 0)] [] fun γ5 => ⟨⟨kt (bdy Try.f16) [1, 1, 1, 1] [], upv (f1_b8 A1 n1 c1 A2 n2 c2 γ1) [(17, .slice A2 3 c2), (18, .pointer (some ⟨γ1 0, 1, none⟩)), (19, .agg #[.slice A1 3 c1, .slice A2 3 c2])], [(γ1 1, 30, (f1_c9 A1 c1 A2 c2)), (γ1 0, 30, (f1_c9 A1 c1 A2 c2))]⟩, [(3, γ1 0), (2, γ1 1)], [], by kernel_rfl, .nil, ?_⟩
      rw [hx3, hy3]
      refine rt (.agg #[.slice A1 3 c1, .slice A2 3 c2]) [(2, 0)] [(2, γ1 1)] (fun W hW => ?_)
      exact ⟨rfl, (hW.old 0 rfl)⟩
    · skip
      have hy3 : (if 3 < n2 then 3 else n2) = n2 := if_neg hy
      refine ck 6 [(3, 1), (2, 0)] [(3, .bool false)] fun γ6 => ⟨⟨kt (bdy Try.f16) [1, 1, 1, 1] [], (f1_b12 A1 n1 c1 A2 n2 c2 γ1), [(γ1 1, 30, (f1_c5 A1 c1 A2 n2 c2)), (γ1 0, 30, (f1_c5 A1 c1 A2 n2 c2))]⟩, [(3, γ1 0), (2, γ1 1)], [Value.bool (decide ((((n2 : Nat) : Int) : Int) > 3)) = .bool false], by kernel_rfl, (.cons (cbF (by omega)) .nil), ?_⟩
      rw [hx3, hy3]
      refine rt (.agg #[.slice A1 3 c1, .slice A2 n2 c2]) [(2, 0)] [(2, γ1 1)] (fun W hW => ?_)
      exact ⟨rfl, (hW.old 0 rfl)⟩
  · skip
    have hx3 : (if 3 < n1 then 3 else n1) = n1 := if_neg hx
    refine ck 4 [(1, 1)] [(3, .bool false)] fun γ7 => ⟨⟨kt (bdy Try.f16) [1, 1, 0, 0, 0] [], upv (f1_b2 A1 n1 c1 A2 n2 c2 γ1) [(3, .pointer (some ⟨γ1 0, 0, none⟩)), (4, .slice A1 n1 c1), (5, .int .i64 ((n1 : Nat) : Int)), (6, .bool false)], [(γ1 1, 30, f1_c3), (γ1 0, 30, (f1_c4 A1 n1 c1 A2 n2 c2))]⟩, [(1, γ1 0)], [Value.bool (decide ((((n1 : Nat) : Int) : Int) > 3)) = .bool false], by kernel_rfl, (.cons (cbF (by omega)) .nil), ?_⟩
    by_cases hy : 3 < n2
    · skip
      have hy3 : (if 3 < n2 then 3 else n2) = 3 := if_pos hy
      refine ck 6 [(2, 1)] [(3, .bool true)] fun γ8 => ⟨⟨kt (bdy Try.f16) [1, 1, 0, 1, 0, 2] [], upv (f1_b2 A1 n1 c1 A2 n2 c2 γ1) [(3, .pointer (some ⟨γ1 0, 0, none⟩)), (4, .slice A1 n1 c1), (5, .int .i64 ((n1 : Nat) : Int)), (6, .bool false), (11, .pointer (some ⟨γ1 0, 1, none⟩)), (12, .slice A2 n2 c2), (13, .int .i64 ((n2 : Nat) : Int)), (14, .bool true), (15, .pointer (some ⟨γ1 0, 1, none⟩)), (16, .slice A2 n2 c2)], [(γ1 1, 30, f1_c3), (γ1 0, 30, (f1_c4 A1 n1 c1 A2 n2 c2))]⟩, [(2, γ1 0)], [Value.bool (decide ((((n2 : Nat) : Int) : Int) > 3)) = .bool true], by kernel_rfl, (.cons (cbT (by omega)) .nil), ?_⟩
      refine sl0 (A := A2) (n := n2) (c := c2) (sz := 3) (some (.int .i64 3)) none 3 c2 rfl rfl rfl (by omega) (by omega) ?_ none rfl
      refine ck 4 [(3, 1), (2, 0)] [] fun γ9 => ⟨⟨kt (bdy Try.f16) [1, 1, 1, 1] [], (f1_b15 A1 n1 c1 A2 n2 c2 γ1), [(γ1 1, 30, (f1_c16 A1 n1 c1 A2 c2)), (γ1 0, 30, (f1_c16 A1 n1 c1 A2 c2))]⟩, [(3, γ1 0), (2, γ1 1)], [], by kernel_rfl, .nil, ?_⟩
      rw [hx3, hy3]
      refine rt (.agg #[.slice A1 n1 c1, .slice A2 3 c2]) [(2, 0)] [(2, γ1 1)] (fun W hW => ?_)
      exact ⟨rfl, (hW.old 0 rfl)⟩
    · skip
      have hy3 : (if 3 < n2 then 3 else n2) = n2 := if_neg hy
      refine ck 6 [(3, 1), (2, 0)] [(3, .bool false)] fun γ10 => ⟨⟨kt (bdy Try.f16) [1, 1, 1, 1] [], upv (f1_b2 A1 n1 c1 A2 n2 c2 γ1) [(3, .pointer (some ⟨γ1 0, 0, none⟩)), (4, .slice A1 n1 c1), (5, .int .i64 ((n1 : Nat) : Int)), (6, .bool false), (11, .pointer (some ⟨γ1 0, 1, none⟩)), (12, .slice A2 n2 c2), (13, .int .i64 ((n2 : Nat) : Int)), (14, .bool false), (19, .agg #[.slice A1 n1 c1, .slice A2 n2 c2])], [(γ1 1, 30, (f1_c4 A1 n1 c1 A2 n2 c2)), (γ1 0, 30, (f1_c4 A1 n1 c1 A2 n2 c2))]⟩, [(3, γ1 0), (2, γ1 1)], [Value.bool (decide ((((n2 : Nat) : Int) : Int) > 3)) = .bool false], by kernel_rfl, (.cons (cbF (by omega)) .nil), ?_⟩
      rw [hx3, hy3]
      refine rt (.agg #[.slice A1 n1 c1, .slice A2 n2 c2]) [(2, 0)] [(2, γ1 1)] (fun W hW => ?_)
      exact ⟨rfl, (hW.old 0 rfl)⟩
end Go.Proofs.Ytglkhjjhjhhonaa.Sr
