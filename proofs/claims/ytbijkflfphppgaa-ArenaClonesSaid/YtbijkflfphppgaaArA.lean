/- Bounds, words held against each other. No condition beside those that each theorem names. -/
import Derived.Test.YtbijkflfphppgaaMach
import Derived.Test.YtbijkflfphppgaaChecked
namespace Go.Proofs.Ytbijkflfphppgaa.Sr
open Go.RowKit Go.Proofs.YtbijkflfphppgaaM.Mach
set_option linter.unusedVariables false
set_option linter.unusedSimpArgs false
def in_raw_0_l0 (a : Int) (lo : Int) (hi : Int) : List Value := [.int .i64 a, .int .i64 lo, .int .i64 hi, zz, zz, zz, .bool false, .int .i64 lo, .int .i64 a, .bool false, .bool false, zz, zz, zz, .bool false]
def in_raw_1_l0 (a : Int) (lo : Int) (hi : Int) : List Value := [.int .i64 a, .int .i64 lo, .int .i64 hi, zz, zz, zz, .bool true, .int .i64 lo, .int .i64 a, .bool true, .bool true, .int .i64 a, .int .i64 hi, .bool true, .bool true]
def in_raw_2_l0 (a : Int) (lo : Int) (hi : Int) : List Value := [.int .i64 a, .int .i64 lo, .int .i64 hi, zz, zz, zz, .bool false, .int .i64 lo, .int .i64 a, .bool true, .bool true, .int .i64 a, .int .i64 hi, .bool false, .bool false]
set_option maxHeartbeats 8000000 in
set_option maxRecDepth 100000 in
theorem in_raw (a lo hi : Int) (w : World) : Calls Try.prog 38 #[.int .i64 a, .int .i64 lo, .int .i64 hi] w fun e w' => e = .returned (.bool (decide (lo ≤ a ∧ a ≤ hi))) ∧ Below w.heap.size w w' := by
  have hc : ¬ lo ≤ a ∨ (lo ≤ a ∧ a ≤ hi) ∨ (lo ≤ a ∧ ¬ a ≤ hi) := by omega
  rcases hc with hc | hc | hc
  · skip
    refine enter (args := [.int .i64 a, .int .i64 lo, .int .i64 hi]) (fn := Try.f38) rfl (c := bdy Try.f38) (by kernel_rfl) ?_
    refine ck 10 [] [(3, .bool false)] fun γ1 => ⟨⟨kt (bdy Try.f38) [1, 1] [], (in_raw_0_l0 a lo hi), []⟩, [], [Value.bool (decide ((lo : Int) ≤ a)) = .bool false], by kernel_rfl, (.cons (cbF (by omega)) .nil), ?_⟩
    refine rt (.bool false) [] [] (fun W hW => ?_)
    exact ⟨by rw [decide_eq_false (by omega)], (hW.old 0 rfl)⟩
  · skip
    refine enter (args := [.int .i64 a, .int .i64 lo, .int .i64 hi]) (fn := Try.f38) rfl (c := bdy Try.f38) (by kernel_rfl) ?_
    refine ck 10 [] [(3, .bool true), (7, .bool true)] fun γ1 => ⟨⟨kt (bdy Try.f38) [1, 1] [], (in_raw_1_l0 a lo hi), []⟩, [], [Value.bool (decide ((lo : Int) ≤ a)) = .bool true, Value.bool (decide ((a : Int) ≤ hi)) = .bool true], by kernel_rfl, (.cons (cbT (by omega)) (.cons (cbT (by omega)) .nil)), ?_⟩
    refine rt (.bool true) [] [] (fun W hW => ?_)
    exact ⟨by rw [decide_eq_true (by omega)], (hW.old 0 rfl)⟩
  · skip
    refine enter (args := [.int .i64 a, .int .i64 lo, .int .i64 hi]) (fn := Try.f38) rfl (c := bdy Try.f38) (by kernel_rfl) ?_
    refine ck 10 [] [(3, .bool true), (7, .bool false)] fun γ1 => ⟨⟨kt (bdy Try.f38) [1, 1] [], (in_raw_2_l0 a lo hi), []⟩, [], [Value.bool (decide ((lo : Int) ≤ a)) = .bool true, Value.bool (decide ((a : Int) ≤ hi)) = .bool false], by kernel_rfl, (.cons (cbT (by omega)) (.cons (cbF (by omega)) .nil)), ?_⟩
    refine rt (.bool false) [] [] (fun W hW => ?_)
    exact ⟨by rw [decide_eq_false (by omega)], (hW.old 0 rfl)⟩
theorem in_is (a lo hi : Int) (b : Bool) (h : decide (lo ≤ a ∧ a ≤ hi) = b) (w : World) : Calls Try.prog 38 #[.int .i64 a, .int .i64 lo, .int .i64 hi] w fun e w' => e = .returned (.bool b) ∧ Below w.heap.size w w' := by
  subst h
  exact in_raw a lo hi w
def clampF (x lo hi : Int) : Int := if x < lo then lo else if hi < x then hi else x
def clamp_is_0_l0 (x : Int) (lo : Int) (hi : Int) : List Value := [.int .i64 x, .int .i64 lo, .int .i64 hi, zz, zz, zz, .int .i64 lo, .int .i64 x, .int .i64 lo, .bool true, .int .i64 lo, zz, zz, zz]
def clamp_is_1_l0 (x : Int) (lo : Int) (hi : Int) : List Value := [.int .i64 x, .int .i64 lo, .int .i64 hi, zz, zz, zz, .int .i64 (if (hi : Int) < x then hi else x), .int .i64 x, .int .i64 lo, .bool false, zz, .int .i64 x, .int .i64 hi, .int .i64 (if (hi : Int) < x then hi else x)]
set_option maxHeartbeats 8000000 in
set_option maxRecDepth 100000 in
theorem clamp_is (x lo hi : Int) (w : World) : Calls Try.prog 28 #[.int .i64 x, .int .i64 lo, .int .i64 hi] w fun e w' => e = .returned (.int .i64 (clampF x lo hi)) ∧ Below w.heap.size w w' := by
  by_cases hc : x < lo
  · skip
    refine enter (args := [.int .i64 x, .int .i64 lo, .int .i64 hi]) (fn := Try.f28) rfl (c := bdy Try.f28) (by kernel_rfl) ?_
    refine ck 6 [] [(3, .bool true)] fun γ1 => ⟨⟨kt (bdy Try.f28) [1, 0, 1, 0, 1] [], (clamp_is_0_l0 x lo hi), []⟩, [], [Value.bool (decide ((x : Int) < lo)) = .bool true], by kernel_rfl, (.cons (cbT (by omega)) .nil), ?_⟩
    refine rt (.int .i64 lo) [] [] (fun W hW => ?_)
    refine ⟨?_, (hW.old 0 rfl)⟩
    unfold clampF
    rw [if_pos hc]
  · skip
    refine enter (args := [.int .i64 x, .int .i64 lo, .int .i64 hi]) (fn := Try.f28) rfl (c := bdy Try.f28) (by kernel_rfl) ?_
    refine ck 8 [] [(3, .bool false)] fun γ1 => ⟨⟨kt (bdy Try.f28) [1, 1, 1] [], (clamp_is_1_l0 x lo hi), []⟩, [], [Value.bool (decide ((x : Int) < lo)) = .bool false], by kernel_rfl, (.cons (cbF (by omega)) .nil), ?_⟩
    refine rt (.int .i64 (if (hi : Int) < x then hi else x)) [] [] (fun W hW => ?_)
    refine ⟨?_, (hW.old 0 rfl)⟩
    unfold clampF
    rw [if_neg hc]
theorem eq36 (a0 a1 a2 b0 b1 b2 : Int) (W : World) : (Op.equal 36 (.agg #[.int .i64 a0, .int .i64 a1, .int .i64 a2]) (.agg #[.int .i64 b0, .int .i64 b1, .int .i64 b2])).run Try.prog W = .ok (decide (a0 = b0 ∧ a1 = b1 ∧ a2 = b2)) W := by
  show (Op.equalIn (9998 + 2) 36 _ _).run Try.prog W = _
  by_cases h0 : a0 = b0 <;> by_cases h1 : a1 = b1 <;> by_cases h2 : a2 = b2 <;> go_simp
theorem eq36s (a0 a1 a2 : Int) (W : World) : (Op.equal 36 (.agg #[.int .i64 a0, .int .i64 a1, .int .i64 a2]) (.agg #[.int .i64 a0, .int .i64 a1, .int .i64 a2])).run Try.prog W = .ok true W := by
  rw [eq36, decide_eq_true ⟨rfl, rfl, rfl⟩]
def encT3 (x : Int) : List Value := [.int .i64 x]
theorem encT3_len (x : Int) : (encT3 x).length = 1 := rfl
theorem encT3_cell (x : Int) : ∀ u ∈ encT3 x, cellV u = true := by
  intro u hu
  simp only [encT3, List.mem_cons, List.not_mem_nil, or_false] at hu
  rcases hu with rfl <;> rfl
def encT78 (x : Int × Int × Int × Int × Int × Int × Int × Int × Int × Int × Int × (Option Addr × Nat × Nat)) : List Value := [.int .i64 x.1, .int .i64 x.2.1, .int .i64 x.2.2.1, .int .i64 x.2.2.2.1, .int .i64 x.2.2.2.2.1, .int .i64 x.2.2.2.2.2.1, .int .i64 x.2.2.2.2.2.2.1, .int .i64 x.2.2.2.2.2.2.2.1, .int .i64 x.2.2.2.2.2.2.2.2.1, .int .i64 x.2.2.2.2.2.2.2.2.2.1, .int .i64 x.2.2.2.2.2.2.2.2.2.2.1, .slice x.2.2.2.2.2.2.2.2.2.2.2.1 x.2.2.2.2.2.2.2.2.2.2.2.2.1 x.2.2.2.2.2.2.2.2.2.2.2.2.2]
theorem encT78_len (x : Int × Int × Int × Int × Int × Int × Int × Int × Int × Int × Int × (Option Addr × Nat × Nat)) : (encT78 x).length = 12 := rfl
theorem encT78_cell (x : Int × Int × Int × Int × Int × Int × Int × Int × Int × Int × Int × (Option Addr × Nat × Nat)) : ∀ u ∈ encT78 x, cellV u = true := by
  intro u hu
  simp only [encT78, List.mem_cons, List.not_mem_nil, or_false] at hu
  rcases hu with rfl | rfl | rfl | rfl | rfl | rfl | rfl | rfl | rfl | rfl | rfl | rfl <;> rfl
def encT43 (x : Int × Int × Int × Int × Int × Int × Int × Int × Int × Int) : List Value := [.int .i64 x.1, .int .i64 x.2.1, .int .i64 x.2.2.1, .int .i64 x.2.2.2.1, .int .i64 x.2.2.2.2.1, .int .i64 x.2.2.2.2.2.1, .int .i64 x.2.2.2.2.2.2.1, .int .i64 x.2.2.2.2.2.2.2.1, .int .i64 x.2.2.2.2.2.2.2.2.1, .int .i64 x.2.2.2.2.2.2.2.2.2]
theorem encT43_len (x : Int × Int × Int × Int × Int × Int × Int × Int × Int × Int) : (encT43 x).length = 10 := rfl
theorem encT43_cell (x : Int × Int × Int × Int × Int × Int × Int × Int × Int × Int) : ∀ u ∈ encT43 x, cellV u = true := by
  intro u hu
  simp only [encT43, List.mem_cons, List.not_mem_nil, or_false] at hu
  rcases hu with rfl | rfl | rfl | rfl | rfl | rfl | rfl | rfl | rfl | rfl <;> rfl
end Go.Proofs.Ytbijkflfphppgaa.Sr
