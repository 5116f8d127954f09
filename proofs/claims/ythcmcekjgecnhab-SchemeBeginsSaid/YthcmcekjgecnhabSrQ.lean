/- Structs held against each other. No condition beside those that each theorem names. -/
import Derived.Test.YthcmcekjgecnhabSrA
namespace Go.Proofs.Ythcmcekjgecnhab.Sr
open Go.RowKit Go.Proofs.YthcmcekjgecnhabM.Mach
set_option linter.unusedVariables false
set_option linter.unusedSimpArgs false
theorem eq94 (a b c a' b' c' : Int) (W : World) : (Op.equal 94 (.agg #[.int .i64 a, .int .i64 b, .int .i64 c]) (.agg #[.int .i64 a', .int .i64 b', .int .i64 c'])).run Try.prog W = .ok (decide (a = a' ∧ b = b' ∧ c = c')) W := by
  show (Op.equalIn (9998 + 2) 94 _ _).run Try.prog W = _
  by_cases h1 : a = a' <;> by_cases h2 : b = b' <;> by_cases h3 : c = c' <;> go_simp
theorem eq94s (a b c : Int) (W : World) : (Op.equal 94 (.agg #[.int .i64 a, .int .i64 b, .int .i64 c]) (.agg #[.int .i64 a, .int .i64 b, .int .i64 c])).run Try.prog W = .ok true W := by
  rw [eq94, decide_eq_true ⟨rfl, rfl, rfl⟩]
theorem eq35 (a b c a' b' c' : Int) (W : World) : (Op.equal 35 (.agg #[.int .i64 a, .int .i64 b, .int .i64 c]) (.agg #[.int .i64 a', .int .i64 b', .int .i64 c'])).run Try.prog W = .ok (decide (a = a' ∧ b = b' ∧ c = c')) W := by
  show (Op.equalIn (9998 + 2) 35 _ _).run Try.prog W = _
  by_cases h1 : a = a' <;> by_cases h2 : b = b' <;> by_cases h3 : c = c' <;> go_simp
theorem eq35s (a b c : Int) (W : World) : (Op.equal 35 (.agg #[.int .i64 a, .int .i64 b, .int .i64 c]) (.agg #[.int .i64 a, .int .i64 b, .int .i64 c])).run Try.prog W = .ok true W := by
  rw [eq35, decide_eq_true ⟨rfl, rfl, rfl⟩]
theorem eq97 (a b c a' b' c' : Int) (W : World) : (Op.equal 97 (.agg #[.int .i64 a, .int .i64 b, .int .i64 c]) (.agg #[.int .i64 a', .int .i64 b', .int .i64 c'])).run Try.prog W = .ok (decide (a = a' ∧ b = b' ∧ c = c')) W := by
  show (Op.equalIn (9998 + 2) 97 _ _).run Try.prog W = _
  by_cases h1 : a = a' <;> by_cases h2 : b = b' <;> by_cases h3 : c = c' <;> go_simp
theorem eq97s (a b c : Int) (W : World) : (Op.equal 97 (.agg #[.int .i64 a, .int .i64 b, .int .i64 c]) (.agg #[.int .i64 a, .int .i64 b, .int .i64 c])).run Try.prog W = .ok true W := by
  rw [eq97, decide_eq_true ⟨rfl, rfl, rfl⟩]
theorem word_eq (d : Nat) (a b c : Int) (W : World) : (Op.equalIn (d + 2) 35 (.agg #[.int .i64 a, .int .i64 b, .int .i64 c]) (.agg #[.int .i64 a, .int .i64 b, .int .i64 c])).run Try.prog W = .ok true W := by
  go_simp
theorem regs_eq (R : Nat → Int) (W : World) : (Op.equal 56 (.agg #[.int .i64 (R 0), .int .i64 (R 1), .int .i64 (R 2), .int .i64 (R 3), .int .i64 (R 4), .int .i64 (R 5), .int .i64 (R 6), .int .i64 (R 7), .int .i64 (R 8), .int .i64 (R 9), .int .i64 (R 10), .int .i64 (R 11)]) (.agg #[.int .i64 (R 0), .int .i64 (R 1), .int .i64 (R 2), .int .i64 (R 3), .int .i64 (R 4), .int .i64 (R 5), .int .i64 (R 6), .int .i64 (R 7), .int .i64 (R 8), .int .i64 (R 9), .int .i64 (R 10), .int .i64 (R 11)])).run Try.prog W = .ok true W := by
  have p0 : ∀ W, (part 35 #[.int .i64 (R 0), .int .i64 (R 1), .int .i64 (R 2), .int .i64 (R 3), .int .i64 (R 4), .int .i64 (R 5), .int .i64 (R 6), .int .i64 (R 7), .int .i64 (R 8), .int .i64 (R 9), .int .i64 (R 10), .int .i64 (R 11)] 0).run Try.prog W = .ok (.agg #[.int .i64 (R 0), .int .i64 (R 1), .int .i64 (R 2)]) W := fun W => by kernel_rfl
  have p1 : ∀ W, (part 35 #[.int .i64 (R 0), .int .i64 (R 1), .int .i64 (R 2), .int .i64 (R 3), .int .i64 (R 4), .int .i64 (R 5), .int .i64 (R 6), .int .i64 (R 7), .int .i64 (R 8), .int .i64 (R 9), .int .i64 (R 10), .int .i64 (R 11)] 3).run Try.prog W = .ok (.agg #[.int .i64 (R 3), .int .i64 (R 4), .int .i64 (R 5)]) W := fun W => by kernel_rfl
  have p2 : ∀ W, (part 35 #[.int .i64 (R 0), .int .i64 (R 1), .int .i64 (R 2), .int .i64 (R 3), .int .i64 (R 4), .int .i64 (R 5), .int .i64 (R 6), .int .i64 (R 7), .int .i64 (R 8), .int .i64 (R 9), .int .i64 (R 10), .int .i64 (R 11)] 6).run Try.prog W = .ok (.agg #[.int .i64 (R 6), .int .i64 (R 7), .int .i64 (R 8)]) W := fun W => by kernel_rfl
  have p3 : ∀ W, (part 35 #[.int .i64 (R 0), .int .i64 (R 1), .int .i64 (R 2), .int .i64 (R 3), .int .i64 (R 4), .int .i64 (R 5), .int .i64 (R 6), .int .i64 (R 7), .int .i64 (R 8), .int .i64 (R 9), .int .i64 (R 10), .int .i64 (R 11)] 9).run Try.prog W = .ok (.agg #[.int .i64 (R 9), .int .i64 (R 10), .int .i64 (R 11)]) W := fun W => by kernel_rfl
  have hs : ∀ W, (sizeOf 35).run Try.prog W = .ok 3 W := fun W => by kernel_rfl
  have hu : ∀ W, (underlying 56).run Try.prog W = .ok (.array 4 35) W := fun W => by kernel_rfl
  show (Op.equalIn (9999 + 1) 56 _ _).run Try.prog W = _
  unfold Op.equalIn
  rw [Sem.run_bind, hu, Result.andThen_ok]
  simp only [Sem.run_bind, hs, Result.andThen_ok]
  simp [Std.Legacy.Range.forIn_eq_forIn_range', Std.Legacy.Range.size, List.range', Sem.run_bind, p0, p1, p2, p3, word_eq 9997]
end Go.Proofs.Ythcmcekjgecnhab.Sr
