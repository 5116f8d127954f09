/- Bounds, places held against each other. No condition beside those that each theorem names. -/
import Derived.Test.YtglkhjjhjhhonaaMach
import Derived.Test.YtglkhjjhjhhonaaChecked
namespace Go.Proofs.Ytglkhjjhjhhonaa.Sr
open Go.RowKit Go.Proofs.YtglkhjjhjhhonaaM.Mach
set_option linter.unusedVariables false
set_option linter.unusedSimpArgs false
def clampF (x lo hi : Int) : Int := if x < lo then lo else if hi < x then hi else x
def clamp_is_0_l0 (x : Int) (lo : Int) (hi : Int) : List Value := [.int .i64 x, .int .i64 lo, .int .i64 hi, zz, zz, zz, .int .i64 lo, .int .i64 x, .int .i64 lo, .bool true, .int .i64 lo, zz, zz, zz]
def clamp_is_1_l0 (x : Int) (lo : Int) (hi : Int) : List Value := [.int .i64 x, .int .i64 lo, .int .i64 hi, zz, zz, zz, .int .i64 (if (hi : Int) < x then hi else x), .int .i64 x, .int .i64 lo, .bool false, zz, .int .i64 x, .int .i64 hi, .int .i64 (if (hi : Int) < x then hi else x)]
set_option maxHeartbeats 8000000 in
set_option maxRecDepth 100000 in
theorem clamp_is (x lo hi : Int) (w : World) : Calls Try.prog 26 #[.int .i64 x, .int .i64 lo, .int .i64 hi] w fun e w' => e = .returned (.int .i64 (clampF x lo hi)) ∧ Below w.heap.size w w' := by
  by_cases hc : x < lo
  · skip
    refine enter (args := [.int .i64 x, .int .i64 lo, .int .i64 hi]) (fn := Try.f26) rfl (c := bdy Try.f26) (by kernel_rfl) ?_
    refine ck 6 [] [(3, .bool true)] fun γ1 => ⟨⟨kt (bdy Try.f26) [1, 0, 1, 0, 1] [], (clamp_is_0_l0 x lo hi), []⟩, [], [Value.bool (decide ((x : Int) < lo)) = .bool true], by kernel_rfl, (.cons (cbT (by omega)) .nil), ?_⟩
    refine rt (.int .i64 lo) [] [] (fun W hW => ?_)
    refine ⟨?_, (hW.old 0 rfl)⟩
    unfold clampF
    rw [if_pos hc]
  · skip
    refine enter (args := [.int .i64 x, .int .i64 lo, .int .i64 hi]) (fn := Try.f26) rfl (c := bdy Try.f26) (by kernel_rfl) ?_
    refine ck 8 [] [(3, .bool false)] fun γ1 => ⟨⟨kt (bdy Try.f26) [1, 1, 1] [], (clamp_is_1_l0 x lo hi), []⟩, [], [Value.bool (decide ((x : Int) < lo)) = .bool false], by kernel_rfl, (.cons (cbF (by omega)) .nil), ?_⟩
    refine rt (.int .i64 (if (hi : Int) < x then hi else x)) [] [] (fun W hW => ?_)
    refine ⟨?_, (hW.old 0 rfl)⟩
    unfold clampF
    rw [if_neg hc]
theorem eq67 (a0 a1 a2 b0 b1 b2 : Int) (W : World) : (Op.equal 67 (.agg #[.int .i64 a0, .int .i64 a1, .int .i64 a2]) (.agg #[.int .i64 b0, .int .i64 b1, .int .i64 b2])).run Try.prog W = .ok (decide (a0 = b0 ∧ a1 = b1 ∧ a2 = b2)) W := by
  show (Op.equalIn (9998 + 2) 67 _ _).run Try.prog W = _
  by_cases h0 : a0 = b0 <;> by_cases h1 : a1 = b1 <;> by_cases h2 : a2 = b2 <;> go_simp
def encT3 (x : Int) : List Value := [.int .i64 x]
def encT67 (x : Int × Int × Int) : List Value := [.int .i64 x.1, .int .i64 x.2.1, .int .i64 x.2.2]
theorem encT67_len (x : Int × Int × Int) : (encT67 x).length = 3 := rfl
theorem encT67_cell (x : Int × Int × Int) : ∀ u ∈ encT67 x, cellV u = true := by
  intro u hu
  simp only [encT67, List.mem_cons, List.not_mem_nil, or_false] at hu
  rcases hu with rfl | rfl | rfl <;> rfl
end Go.Proofs.Ytglkhjjhjhhonaa.Sr
