/- Numbers and texts. No condition beside those that each theorem names. -/
import Derived.Test.YtkkbhllljafdfaaMach
import Derived.Test.YtkkbhllljafdfaaChecked
import Derived.Lib.Strings
namespace Go.Proofs.Ytkkbhllljafdfaa.Sr
open Go.RowKit Go.Proofs.YtkkbhllljafdfaaM.Mach
set_option linter.unusedVariables false
set_option linter.unusedSimpArgs false
theorem seF {a b : ByteArray} (h : a.data.toList ≠ b.data.toList) : Value.bool (a.toList == b.toList) = .bool false := by
  rw [Lib.toList_data, Lib.toList_data, beq_eq_false_iff_ne.2 h]
def encT3 (x : Int) : List Value := [.int .i64 x]
theorem encT3_len (x : Int) : (encT3 x).length = 1 := rfl
theorem encT3_cell (x : Int) : ∀ u ∈ encT3 x, cellV u = true := by
  intro u hu
  simp only [encT3, List.mem_cons, List.not_mem_nil, or_false] at hu
  rcases hu with rfl <;> rfl
def encT47 (x : Int × ByteArray) : List Value := [.int .u64 x.1, .string x.2]
theorem encT47_len (x : Int × ByteArray) : (encT47 x).length = 2 := rfl
theorem encT47_cell (x : Int × ByteArray) : ∀ u ∈ encT47 x, cellV u = true := by
  intro u hu
  simp only [encT47, List.mem_cons, List.not_mem_nil, or_false] at hu
  rcases hu with rfl | rfl <;> rfl
end Go.Proofs.Ytkkbhllljafdfaa.Sr
