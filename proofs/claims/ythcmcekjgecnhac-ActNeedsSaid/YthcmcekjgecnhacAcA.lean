/- Places, instructions, held against each other. No condition beside those that each theorem names. -/
import Derived.Test.YthcmcekjgecnhacMach
import Derived.Test.YthcmcekjgecnhacChecked
import Derived.Lib.Strings
namespace Go.Proofs.Ythcmcekjgecnhac.Sr
open Go.RowKit Go.Proofs.YthcmcekjgecnhacM.Mach
set_option linter.unusedVariables false
set_option linter.unusedSimpArgs false
theorem eq46 (a0 a1 a2 b0 b1 b2 : Int) (W : World) : (Op.equal 46 (.agg #[.int .i64 a0, .int .i64 a1, .int .i64 a2]) (.agg #[.int .i64 b0, .int .i64 b1, .int .i64 b2])).run Try.prog W = .ok (decide (a0 = b0 ∧ a1 = b1 ∧ a2 = b2)) W := by
  show (Op.equalIn (9998 + 2) 46 _ _).run Try.prog W = _
  by_cases h0 : a0 = b0 <;> by_cases h1 : a1 = b1 <;> by_cases h2 : a2 = b2 <;> go_simp
theorem eq46s (a0 a1 a2 : Int) (W : World) : (Op.equal 46 (.agg #[.int .i64 a0, .int .i64 a1, .int .i64 a2]) (.agg #[.int .i64 a0, .int .i64 a1, .int .i64 a2])).run Try.prog W = .ok true W := by
  rw [eq46, decide_eq_true ⟨rfl, rfl, rfl⟩]
def encT3 (x : Int) : List Value := [.int .i64 x]
theorem encT3_len (x : Int) : (encT3 x).length = 1 := rfl
theorem encT3_cell (x : Int) : ∀ u ∈ encT3 x, cellV u = true := by
  intro u hu
  simp only [encT3, List.mem_cons, List.not_mem_nil, or_false] at hu
  rcases hu with rfl <;> rfl
def encT46 (x : Int × Int × Int) : List Value := [.int .i64 x.1, .int .i64 x.2.1, .int .i64 x.2.2]
theorem encT46_len (x : Int × Int × Int) : (encT46 x).length = 3 := rfl
theorem encT46_cell (x : Int × Int × Int) : ∀ u ∈ encT46 x, cellV u = true := by
  intro u hu
  simp only [encT46, List.mem_cons, List.not_mem_nil, or_false] at hu
  rcases hu with rfl | rfl | rfl <;> rfl
def encT22 (x : (Option Addr × Nat × Nat)) : List Value := [.slice x.1 x.2.1 x.2.2]
theorem encT22_len (x : (Option Addr × Nat × Nat)) : (encT22 x).length = 1 := rfl
theorem encT22_cell (x : (Option Addr × Nat × Nat)) : ∀ u ∈ encT22 x, cellV u = true := by
  intro u hu
  simp only [encT22, List.mem_cons, List.not_mem_nil, or_false] at hu
  rcases hu with rfl <;> rfl
def encT57 (x : Int × Int × Int × Int × Int) : List Value := [.int .i64 x.1, .int .i64 x.2.1, .int .i64 x.2.2.1, .int .i64 x.2.2.2.1, .int .i64 x.2.2.2.2]
theorem encT57_len (x : Int × Int × Int × Int × Int) : (encT57 x).length = 5 := rfl
theorem encT57_cell (x : Int × Int × Int × Int × Int) : ∀ u ∈ encT57 x, cellV u = true := by
  intro u hu
  simp only [encT57, List.mem_cons, List.not_mem_nil, or_false] at hu
  rcases hu with rfl | rfl | rfl | rfl | rfl <;> rfl
def encT53 (x : (Option Addr × Nat × Nat)) : List Value := [.slice x.1 x.2.1 x.2.2]
theorem encT53_len (x : (Option Addr × Nat × Nat)) : (encT53 x).length = 1 := rfl
theorem encT53_cell (x : (Option Addr × Nat × Nat)) : ∀ u ∈ encT53 x, cellV u = true := by
  intro u hu
  simp only [encT53, List.mem_cons, List.not_mem_nil, or_false] at hu
  rcases hu with rfl <;> rfl
theorem seF {a b : ByteArray} (h : a.data.toList ≠ b.data.toList) : Value.bool (a.toList == b.toList) = .bool false := by
  rw [Lib.toList_data, Lib.toList_data, beq_eq_false_iff_ne.2 h]
end Go.Proofs.Ythcmcekjgecnhac.Sr
