/- Any text is the name of the one instruction whose name it is, or of none. No condition. -/
import Derived.Test.YthllggfimndkladQOpNamesx2
namespace Go.Proofs.Ythllggfimndklad.Pure
open Go.RowKit Go.Proofs.Ythllggfimndklad.QOpNames Go.Proofs.YthllggfimndkladW.PrintWords Go.Proofs.YthllggfimndkladW.PrintLast Go.Proofs.YthllggfimndkladW.PrintMore Go.Proofs.YthllggfimndkladW.HWords

theorem names_alive : warrenerlaw09_alive.f = some true := by decide +kernel
theorem names_words : warrenerref08_Words.f 1000 LONG0 = some (op_kinds.strs.drop 2) := by decide +kernel
theorem names_len : op_kinds.strs.length = 52 := by decide +kernel
theorem names_loop (s : ByteArray) (d : Nat) : ∀ (k i : Nat), i + d = 25 → d < k → warrenerref09_Op.l0 k s (op_kinds.strs.drop 2) i = some (op_Op.find s (i + 1) d) := by
  induction d with
  | zero =>
    intro k i h hk
    obtain ⟨k, rfl⟩ : ∃ m, k = m + 1 := ⟨k - 1, by omega⟩
    simp only [warrenerref09_Op.l0, op_Op.find]
    rw [if_neg (by omega)]
  | succ d ih =>
    intro k i h hk
    obtain ⟨k, rfl⟩ : ∃ m, k = m + 1 := ⟨k - 1, by omega⟩
    have e1 : wrap64 (2 * (i : Int)) = ((2 * i : Nat) : Int) := by unfold wrap64; omega
    have e2 : wrap64 ((i : Int) + 1) = ((i + 1 : Nat) : Int) := by unfold wrap64; omega
    have e3 : rdOf ByteArray.empty (op_kinds.strs.drop 2) ((2 * i : Nat) : Int) = op_kinds.strs.getD ((i + 1) * 2) ⟨#[]⟩ := by
      unfold rdOf
      rw [Int.toNat_natCast, List.getD_eq_getElem?_getD, List.getD_eq_getElem?_getD, List.getElem?_drop, show 2 + 2 * i = (i + 1) * 2 by omega]
      rfl
    have hl := names_len
    simp only [warrenerref09_Op.l0, op_Op.find]
    rw [if_pos (by omega), e1, if_pos (by omega), if_pos (by rw [List.length_drop]; omega), e2, e3]
    by_cases c : (op_kinds.strs.getD ((i + 1) * 2) ⟨#[]⟩).toList = s.toList
    · rw [if_pos c, if_pos ⟨by omega, by rw [c]; exact beq_self_eq_true _⟩]
    · rw [if_neg c, if_neg (fun h => c (eq_of_beq h.2))]
      exact ih k (i + 1) (by omega) (by omega)
theorem names_found (s : ByteArray) (d : Nat) : ∀ i : Nat, i + d = 26 → op_Op.find s i d = 0 ∨ ∃ j : Nat, op_Op.find s i d = j ∧ 0 < j ∧ j < 26 ∧ ((op_kinds.strs.getD (j * 2) ⟨#[]⟩).toList == s.toList) = true := by
  induction d with
  | zero =>
    intro i _
    exact Or.inl rfl
  | succ d ih =>
    intro i h
    by_cases c : 0 < i ∧ ((op_kinds.strs.getD (i * 2) ⟨#[]⟩).toList == s.toList) = true
    · refine Or.inr ⟨i, ?_, c.1, by omega, c.2⟩
      simp only [op_Op.find]
      rw [if_pos c]
    · have := ih (i + 1) (by omega)
      simp only [op_Op.find]
      rw [if_neg c]
      exact this
theorem names_ref (s : ByteArray) : warrenerref09_Op.f 1000 s = op_Op.f s := by
  unfold warrenerref09_Op.f op_Op.f
  rw [names_words]
  simp only [Option.bind_some]
  have h := names_loop s 25 1000 0 (by omega) (by omega)
  have e : op_Op.find s 0 26 = op_Op.find s 1 25 := by
    rw [op_Op.find, if_neg (by omega)]
  rw [e]
  exact h
theorem names_core (s : ByteArray) : ((op_Op.f s).bind fun t113 => ((warrenerref09_Op.f 1000 s).bind fun t114 => (if t113 = t114 then (if t113 = 0 then (some true) else ((op_Name.f t113).bind fun t115 => (some (t115.toList == s.toList)))) else (some false)))) = some true := by
  rw [names_ref]
  unfold op_Op.f
  simp only [Option.bind_some, if_true]
  rcases names_found s 26 0 (by omega) with h | ⟨j, h, h0, h1, h2⟩
  · rw [h]
    rfl
  · rw [h, if_neg (by omega)]
    unfold op_Name.f op_of.f
    rw [if_pos (by omega)]
    simp only [Option.bind_some, Int.toNat_natCast]
    rw [h2]

theorem OpNames : warrenerlaw09_OpNames.Pure := by
  intro s _
  refine ⟨1000, ?_⟩
  unfold warrenerlaw09_OpNames.f
  rw [names_alive]
  simp only [Option.bind_some, if_true]
  by_cases c : (s.size : Int) > 30
  · rw [if_pos c, if_pos (by omega), if_pos (by omega)]
    exact names_core _
  · rw [if_neg c]
    exact names_core _

end Go.Proofs.Ythllggfimndklad.Pure
