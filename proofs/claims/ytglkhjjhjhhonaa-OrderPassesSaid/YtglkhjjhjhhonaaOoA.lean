/- Threads; which steps hang together. No condition beside those that each theorem names. -/
import Derived.Test.YtglkhjjhjhhonaaFtF
namespace Go.Proofs.Ytglkhjjhjhhonaa.Sr
open Go.RowKit Go.Proofs.YtglkhjjhjhhonaaM.Mach
set_option linter.unusedVariables false
set_option linter.unusedSimpArgs false
/-- An agent's thread. -/
def thF (t : Nat) (a : Int) : Int := if 0 ≤ a ∧ a < 2 * (t : Int) then (if a < (t : Int) then a else a - (t : Int)) else -1
theorem th_no {t : Nat} {a : Int} (h : a < 0 ∨ 2 * (t : Int) ≤ a) : thF t a = -1 := by
  unfold thF
  rw [if_neg (by omega)]
theorem th_lo {t : Nat} {a : Int} (h : 0 ≤ a ∧ a < (t : Int)) : thF t a = a := by
  unfold thF
  rw [if_pos (by omega), if_pos h.2]
theorem th_hi {t : Nat} {a : Int} (h : (t : Int) ≤ a ∧ a < 2 * (t : Int)) : thF t a = a - (t : Int) := by
  unfold thF
  rw [if_pos (by omega), if_neg (by omega)]
theorem rem_lo {a t : Int} (h : 0 ≤ a ∧ a < t) : a.tmod t = a := Int.tmod_eq_of_lt h.1 h.2
theorem rem_hi {a t : Int} (h : t ≤ a ∧ a < 2 * t) (ht : 0 < t) : a.tmod t = a - t := by
  rw [Int.tmod_eq_emod_of_nonneg (by omega)]
  have h1 : (a - t) % t = a % t := Int.sub_emod_right a t
  rw [← h1]
  exact Int.emod_eq_of_lt (by omega) (by omega)
def togF (t : Nat) (a : Int) (a1 a2 : List P3) (b : Int) (b1 b2 : List P3) : Bool := decide (0 ≤ thF t a ∧ thF t a = thF t b) || clashB a1 a2 b1 b2
def thread_0_0_l0 (a : Int) : List Value := [.int .i64 0, .int .i64 a, zz, zz, .int .i64 0, .int .i64 0, zz, zz, zz, zz, zz, zz, zz, zz, zz, zz]
def thread_0_0_l1 : List Value := [.int .i64 0, .int .i64 0, .int .i64 4, zz, zz, zz, .int .i64 0, .int .i64 0, .int .i64 0, .bool false, zz, .int .i64 0, .int .i64 4, .int .i64 0]
def thread_0_0_l2 (a : Int) : List Value := [.int .i64 0, .int .i64 a, zz, zz, .int .i64 0, .int .i64 0, .int .i64 0, .int .i64 a, .int .i64 0, .int .i64 0, .int .i64 (-1), zz, zz, zz, zz, zz]
def thread_0_0_l3 (a : Int) : List Value := [.int .i64 a, .int .i64 0, .int .i64 (-1), zz, zz, zz, .bool false, .int .i64 0, .int .i64 a, .bool false, .bool false, zz, zz, zz, .bool false]
def thread_0_0_l4 (a : Int) : List Value := [.int .i64 0, .int .i64 a, zz, zz, .int .i64 (-1), .int .i64 0, .int .i64 0, .int .i64 a, .int .i64 0, .int .i64 0, .int .i64 (-1), .bool false, .bool true, zz, zz, zz]
def thread_0_1_l0 (a : Int) : List Value := [.int .i64 0, .int .i64 a, zz, zz, .int .i64 0, .int .i64 0, zz, zz, zz, zz, zz, zz, zz, zz, zz, zz]
def thread_0_1_l1 : List Value := [.int .i64 0, .int .i64 0, .int .i64 4, zz, zz, zz, .int .i64 0, .int .i64 0, .int .i64 0, .bool false, zz, .int .i64 0, .int .i64 4, .int .i64 0]
def thread_0_1_l2 (a : Int) : List Value := [.int .i64 0, .int .i64 a, zz, zz, .int .i64 0, .int .i64 0, .int .i64 0, .int .i64 a, .int .i64 0, .int .i64 0, .int .i64 (-1), zz, zz, zz, zz, zz]
def thread_0_1_l3 (a : Int) : List Value := [.int .i64 a, .int .i64 0, .int .i64 (-1), zz, zz, zz, .bool false, .int .i64 0, .int .i64 a, .bool true, .bool true, .int .i64 a, .int .i64 (-1), .bool false, .bool false]
def thread_0_1_l4 (a : Int) : List Value := [.int .i64 0, .int .i64 a, zz, zz, .int .i64 (-1), .int .i64 0, .int .i64 0, .int .i64 a, .int .i64 0, .int .i64 0, .int .i64 (-1), .bool false, .bool true, zz, zz, zz]
set_option maxHeartbeats 8000000 in
set_option maxRecDepth 100000 in
theorem thread_0 (a : Int) (w : World) : Calls Try.prog 28 #[.int .i64 0, .int .i64 a] w fun e w' => e = .returned (.int .i64 (thF 0 a)) ∧ Below w.heap.size w w' := by
  have hc : a < 0 ∨ (0 ≤ a ∧ 0 ≤ a) := by omega
  rcases hc with hc | hc
  · skip
    refine enter (args := [.int .i64 0, .int .i64 a]) (fn := Try.f28) rfl (c := bdy Try.f28) (by kernel_rfl) ?_
    refine ck 2 [] [] fun γ1 => ⟨⟨kt (bdy Try.f28) [1, 0, 1] [], (thread_0_0_l0 a), []⟩, [], [], by kernel_rfl, .nil, ?_⟩
    refine ci (f := 26) (args := [.int .i64 0, .int .i64 0, .int .i64 4]) (fn := Try.f26) (c := bdy Try.f26) rfl (fun R2 hR2 => ?_)
    refine ck 8 [] [] fun γ3 => ⟨⟨kt (bdy Try.f26) [1, 1, 1] [], thread_0_0_l1, []⟩, [], [], by kernel_rfl, .nil, ?_⟩
    refine crm hR2 (.int .i64 0) [] [] [] ?_
    refine ck 5 [] [] fun γ4 => ⟨⟨kt (bdy Try.f28) [1, 1, 0, 0, 4] [], (thread_0_0_l2 a), []⟩, [], [], by kernel_rfl, .nil, ?_⟩
    refine ci (f := 31) (args := [.int .i64 a, .int .i64 0, .int .i64 (-1)]) (fn := Try.f31) (c := bdy Try.f31) rfl (fun R5 hR5 => ?_)
    refine ck 10 [] [(3, .bool false)] fun γ6 => ⟨⟨kt (bdy Try.f31) [1, 1] [], (thread_0_0_l3 a), []⟩, [], [Value.bool (decide ((0 : Int) ≤ a)) = .bool false], by kernel_rfl, (.cons (cbF (by omega)) .nil), ?_⟩
    refine crm hR5 (.bool false) [] [] [] ?_
    refine ck 2 [] [] fun γ7 => ⟨⟨kt (bdy Try.f28) [1, 1, 0, 1, 0, 1] [], (thread_0_0_l4 a), []⟩, [], [], by kernel_rfl, .nil, ?_⟩
    refine rt (.int .i64 (-1)) [] [] (fun W hW => ?_)
    exact ⟨by rw [show thF 0 a = -1 from th_no (by omega)], (hW.old 0 rfl)⟩
  · skip
    refine enter (args := [.int .i64 0, .int .i64 a]) (fn := Try.f28) rfl (c := bdy Try.f28) (by kernel_rfl) ?_
    refine ck 2 [] [] fun γ1 => ⟨⟨kt (bdy Try.f28) [1, 0, 1] [], (thread_0_1_l0 a), []⟩, [], [], by kernel_rfl, .nil, ?_⟩
    refine ci (f := 26) (args := [.int .i64 0, .int .i64 0, .int .i64 4]) (fn := Try.f26) (c := bdy Try.f26) rfl (fun R2 hR2 => ?_)
    refine ck 8 [] [] fun γ3 => ⟨⟨kt (bdy Try.f26) [1, 1, 1] [], thread_0_1_l1, []⟩, [], [], by kernel_rfl, .nil, ?_⟩
    refine crm hR2 (.int .i64 0) [] [] [] ?_
    refine ck 5 [] [] fun γ4 => ⟨⟨kt (bdy Try.f28) [1, 1, 0, 0, 4] [], (thread_0_1_l2 a), []⟩, [], [], by kernel_rfl, .nil, ?_⟩
    refine ci (f := 31) (args := [.int .i64 a, .int .i64 0, .int .i64 (-1)]) (fn := Try.f31) (c := bdy Try.f31) rfl (fun R5 hR5 => ?_)
    refine ck 10 [] [(3, .bool true), (7, .bool false)] fun γ6 => ⟨⟨kt (bdy Try.f31) [1, 1] [], (thread_0_1_l3 a), []⟩, [], [Value.bool (decide ((0 : Int) ≤ a)) = .bool true, Value.bool (decide ((a : Int) ≤ (-1))) = .bool false], by kernel_rfl, (.cons (cbT (by omega)) (.cons (cbF (by omega)) .nil)), ?_⟩
    refine crm hR5 (.bool false) [] [] [] ?_
    refine ck 2 [] [] fun γ7 => ⟨⟨kt (bdy Try.f28) [1, 1, 0, 1, 0, 1] [], (thread_0_1_l4 a), []⟩, [], [], by kernel_rfl, .nil, ?_⟩
    refine rt (.int .i64 (-1)) [] [] (fun W hW => ?_)
    exact ⟨by rw [show thF 0 a = -1 from th_no (by omega)], (hW.old 0 rfl)⟩
def thread_1_0_l0 (a : Int) : List Value := [.int .i64 1, .int .i64 a, zz, zz, .int .i64 0, .int .i64 1, zz, zz, zz, zz, zz, zz, zz, zz, zz, zz]
def thread_1_0_l1 : List Value := [.int .i64 1, .int .i64 0, .int .i64 4, zz, zz, zz, .int .i64 1, .int .i64 1, .int .i64 0, .bool false, zz, .int .i64 1, .int .i64 4, .int .i64 1]
def thread_1_0_l2 (a : Int) : List Value := [.int .i64 1, .int .i64 a, zz, zz, .int .i64 0, .int .i64 1, .int .i64 1, .int .i64 a, .int .i64 1, .int .i64 2, .int .i64 1, zz, zz, zz, zz, zz]
def thread_1_0_l3 (a : Int) : List Value := [.int .i64 a, .int .i64 0, .int .i64 1, zz, zz, zz, .bool false, .int .i64 0, .int .i64 a, .bool false, .bool false, zz, zz, zz, .bool false]
def thread_1_0_l4 (a : Int) : List Value := [.int .i64 1, .int .i64 a, zz, zz, .int .i64 (-1), .int .i64 1, .int .i64 1, .int .i64 a, .int .i64 1, .int .i64 2, .int .i64 1, .bool false, .bool true, zz, zz, zz]
def thread_1_1_l0 (a : Int) : List Value := [.int .i64 1, .int .i64 a, zz, zz, .int .i64 0, .int .i64 1, zz, zz, zz, zz, zz, zz, zz, zz, zz, zz]
def thread_1_1_l1 : List Value := [.int .i64 1, .int .i64 0, .int .i64 4, zz, zz, zz, .int .i64 1, .int .i64 1, .int .i64 0, .bool false, zz, .int .i64 1, .int .i64 4, .int .i64 1]
def thread_1_1_l2 (a : Int) : List Value := [.int .i64 1, .int .i64 a, zz, zz, .int .i64 0, .int .i64 1, .int .i64 1, .int .i64 a, .int .i64 1, .int .i64 2, .int .i64 1, zz, zz, zz, zz, zz]
def thread_1_1_l3 (a : Int) : List Value := [.int .i64 a, .int .i64 0, .int .i64 1, zz, zz, zz, .bool false, .int .i64 0, .int .i64 a, .bool true, .bool true, .int .i64 a, .int .i64 1, .bool false, .bool false]
def thread_1_1_l4 (a : Int) : List Value := [.int .i64 1, .int .i64 a, zz, zz, .int .i64 (-1), .int .i64 1, .int .i64 1, .int .i64 a, .int .i64 1, .int .i64 2, .int .i64 1, .bool false, .bool true, zz, zz, zz]
def thread_1_2_l0 (a : Int) : List Value := [.int .i64 1, .int .i64 a, zz, zz, .int .i64 0, .int .i64 1, zz, zz, zz, zz, zz, zz, zz, zz, zz, zz]
def thread_1_2_l1 : List Value := [.int .i64 1, .int .i64 0, .int .i64 4, zz, zz, zz, .int .i64 1, .int .i64 1, .int .i64 0, .bool false, zz, .int .i64 1, .int .i64 4, .int .i64 1]
def thread_1_2_l2 (a : Int) : List Value := [.int .i64 1, .int .i64 a, zz, zz, .int .i64 0, .int .i64 1, .int .i64 1, .int .i64 a, .int .i64 1, .int .i64 2, .int .i64 1, zz, zz, zz, zz, zz]
def thread_1_2_l3 (a : Int) : List Value := [.int .i64 a, .int .i64 0, .int .i64 1, zz, zz, zz, .bool true, .int .i64 0, .int .i64 a, .bool true, .bool true, .int .i64 a, .int .i64 1, .bool true, .bool true]
def thread_1_2_l4 (a : Int) : List Value := [.int .i64 1, .int .i64 a, zz, zz, .int .i64 a, .int .i64 1, .int .i64 1, .int .i64 a, .int .i64 1, .int .i64 2, .int .i64 1, .bool true, .bool false, .int .i64 a, .int .i64 1, .int .i64 a]
def thread_1_3_l0 (a : Int) : List Value := [.int .i64 1, .int .i64 a, zz, zz, .int .i64 0, .int .i64 1, zz, zz, zz, zz, zz, zz, zz, zz, zz, zz]
def thread_1_3_l1 : List Value := [.int .i64 1, .int .i64 0, .int .i64 4, zz, zz, zz, .int .i64 1, .int .i64 1, .int .i64 0, .bool false, zz, .int .i64 1, .int .i64 4, .int .i64 1]
def thread_1_3_l2 (a : Int) : List Value := [.int .i64 1, .int .i64 a, zz, zz, .int .i64 0, .int .i64 1, .int .i64 1, .int .i64 a, .int .i64 1, .int .i64 2, .int .i64 1, zz, zz, zz, zz, zz]
def thread_1_3_l3 (a : Int) : List Value := [.int .i64 a, .int .i64 0, .int .i64 1, zz, zz, zz, .bool true, .int .i64 0, .int .i64 a, .bool true, .bool true, .int .i64 a, .int .i64 1, .bool true, .bool true]
def thread_1_3_l4 (a : Int) : List Value := [.int .i64 1, .int .i64 a, zz, zz, .int .i64 (a - 1), .int .i64 1, .int .i64 1, .int .i64 a, .int .i64 1, .int .i64 2, .int .i64 1, .bool true, .bool false, .int .i64 a, .int .i64 1, .int .i64 (a - 1)]
set_option maxHeartbeats 8000000 in
set_option maxRecDepth 100000 in
theorem thread_1 (a : Int) (w : World) : Calls Try.prog 28 #[.int .i64 1, .int .i64 a] w fun e w' => e = .returned (.int .i64 (thF 1 a)) ∧ Below w.heap.size w w' := by
  have hc : a < 0 ∨ (0 ≤ a ∧ 2 ≤ a) ∨ (0 ≤ a ∧ a < 1) ∨ (1 ≤ a ∧ a < 2) := by omega
  rcases hc with hc | hc | hc | hc
  · skip
    refine enter (args := [.int .i64 1, .int .i64 a]) (fn := Try.f28) rfl (c := bdy Try.f28) (by kernel_rfl) ?_
    refine ck 2 [] [] fun γ1 => ⟨⟨kt (bdy Try.f28) [1, 0, 1] [], (thread_1_0_l0 a), []⟩, [], [], by kernel_rfl, .nil, ?_⟩
    refine ci (f := 26) (args := [.int .i64 1, .int .i64 0, .int .i64 4]) (fn := Try.f26) (c := bdy Try.f26) rfl (fun R2 hR2 => ?_)
    refine ck 8 [] [] fun γ3 => ⟨⟨kt (bdy Try.f26) [1, 1, 1] [], thread_1_0_l1, []⟩, [], [], by kernel_rfl, .nil, ?_⟩
    refine crm hR2 (.int .i64 1) [] [] [] ?_
    refine ck 5 [] [] fun γ4 => ⟨⟨kt (bdy Try.f28) [1, 1, 0, 0, 4] [], (thread_1_0_l2 a), []⟩, [], [], by kernel_rfl, .nil, ?_⟩
    refine ci (f := 31) (args := [.int .i64 a, .int .i64 0, .int .i64 1]) (fn := Try.f31) (c := bdy Try.f31) rfl (fun R5 hR5 => ?_)
    refine ck 10 [] [(3, .bool false)] fun γ6 => ⟨⟨kt (bdy Try.f31) [1, 1] [], (thread_1_0_l3 a), []⟩, [], [Value.bool (decide ((0 : Int) ≤ a)) = .bool false], by kernel_rfl, (.cons (cbF (by omega)) .nil), ?_⟩
    refine crm hR5 (.bool false) [] [] [] ?_
    refine ck 2 [] [] fun γ7 => ⟨⟨kt (bdy Try.f28) [1, 1, 0, 1, 0, 1] [], (thread_1_0_l4 a), []⟩, [], [], by kernel_rfl, .nil, ?_⟩
    refine rt (.int .i64 (-1)) [] [] (fun W hW => ?_)
    exact ⟨by rw [show thF 1 a = -1 from th_no (by omega)], (hW.old 0 rfl)⟩
  · skip
    refine enter (args := [.int .i64 1, .int .i64 a]) (fn := Try.f28) rfl (c := bdy Try.f28) (by kernel_rfl) ?_
    refine ck 2 [] [] fun γ1 => ⟨⟨kt (bdy Try.f28) [1, 0, 1] [], (thread_1_1_l0 a), []⟩, [], [], by kernel_rfl, .nil, ?_⟩
    refine ci (f := 26) (args := [.int .i64 1, .int .i64 0, .int .i64 4]) (fn := Try.f26) (c := bdy Try.f26) rfl (fun R2 hR2 => ?_)
    refine ck 8 [] [] fun γ3 => ⟨⟨kt (bdy Try.f26) [1, 1, 1] [], thread_1_1_l1, []⟩, [], [], by kernel_rfl, .nil, ?_⟩
    refine crm hR2 (.int .i64 1) [] [] [] ?_
    refine ck 5 [] [] fun γ4 => ⟨⟨kt (bdy Try.f28) [1, 1, 0, 0, 4] [], (thread_1_1_l2 a), []⟩, [], [], by kernel_rfl, .nil, ?_⟩
    refine ci (f := 31) (args := [.int .i64 a, .int .i64 0, .int .i64 1]) (fn := Try.f31) (c := bdy Try.f31) rfl (fun R5 hR5 => ?_)
    refine ck 10 [] [(3, .bool true), (7, .bool false)] fun γ6 => ⟨⟨kt (bdy Try.f31) [1, 1] [], (thread_1_1_l3 a), []⟩, [], [Value.bool (decide ((0 : Int) ≤ a)) = .bool true, Value.bool (decide ((a : Int) ≤ 1)) = .bool false], by kernel_rfl, (.cons (cbT (by omega)) (.cons (cbF (by omega)) .nil)), ?_⟩
    refine crm hR5 (.bool false) [] [] [] ?_
    refine ck 2 [] [] fun γ7 => ⟨⟨kt (bdy Try.f28) [1, 1, 0, 1, 0, 1] [], (thread_1_1_l4 a), []⟩, [], [], by kernel_rfl, .nil, ?_⟩
    refine rt (.int .i64 (-1)) [] [] (fun W hW => ?_)
    exact ⟨by rw [show thF 1 a = -1 from th_no (by omega)], (hW.old 0 rfl)⟩
  · skip
    refine enter (args := [.int .i64 1, .int .i64 a]) (fn := Try.f28) rfl (c := bdy Try.f28) (by kernel_rfl) ?_
    refine ck 2 [] [] fun γ1 => ⟨⟨kt (bdy Try.f28) [1, 0, 1] [], (thread_1_2_l0 a), []⟩, [], [], by kernel_rfl, .nil, ?_⟩
    refine ci (f := 26) (args := [.int .i64 1, .int .i64 0, .int .i64 4]) (fn := Try.f26) (c := bdy Try.f26) rfl (fun R2 hR2 => ?_)
    refine ck 8 [] [] fun γ3 => ⟨⟨kt (bdy Try.f26) [1, 1, 1] [], thread_1_2_l1, []⟩, [], [], by kernel_rfl, .nil, ?_⟩
    refine crm hR2 (.int .i64 1) [] [] [] ?_
    refine ck 5 [] [] fun γ4 => ⟨⟨kt (bdy Try.f28) [1, 1, 0, 0, 4] [], (thread_1_2_l2 a), []⟩, [], [], by kernel_rfl, .nil, ?_⟩
    refine ci (f := 31) (args := [.int .i64 a, .int .i64 0, .int .i64 1]) (fn := Try.f31) (c := bdy Try.f31) rfl (fun R5 hR5 => ?_)
    refine ck 10 [] [(3, .bool true), (7, .bool true)] fun γ6 => ⟨⟨kt (bdy Try.f31) [1, 1] [], (thread_1_2_l3 a), []⟩, [], [Value.bool (decide ((0 : Int) ≤ a)) = .bool true, Value.bool (decide ((a : Int) ≤ 1)) = .bool true], by kernel_rfl, (.cons (cbT (by omega)) (.cons (cbT (by omega)) .nil)), ?_⟩
    refine crm hR5 (.bool true) [] [] [] ?_
    refine ck 5 [] [(3, .int .i64 a)] fun γ7 => ⟨⟨kt (bdy Try.f28) [1, 1, 1, 1] [], (thread_1_2_l4 a), []⟩, [], [Value.int .i64 (Int.tmod a 1) = .int .i64 a], by kernel_rfl, (.cons (congrArg (Value.int .i64) (rem_lo (by omega))) .nil), ?_⟩
    refine rt (.int .i64 a) [] [] (fun W hW => ?_)
    exact ⟨by rw [show thF 1 a = a from th_lo (by omega)], (hW.old 0 rfl)⟩
  · skip
    refine enter (args := [.int .i64 1, .int .i64 a]) (fn := Try.f28) rfl (c := bdy Try.f28) (by kernel_rfl) ?_
    refine ck 2 [] [] fun γ1 => ⟨⟨kt (bdy Try.f28) [1, 0, 1] [], (thread_1_3_l0 a), []⟩, [], [], by kernel_rfl, .nil, ?_⟩
    refine ci (f := 26) (args := [.int .i64 1, .int .i64 0, .int .i64 4]) (fn := Try.f26) (c := bdy Try.f26) rfl (fun R2 hR2 => ?_)
    refine ck 8 [] [] fun γ3 => ⟨⟨kt (bdy Try.f26) [1, 1, 1] [], thread_1_3_l1, []⟩, [], [], by kernel_rfl, .nil, ?_⟩
    refine crm hR2 (.int .i64 1) [] [] [] ?_
    refine ck 5 [] [] fun γ4 => ⟨⟨kt (bdy Try.f28) [1, 1, 0, 0, 4] [], (thread_1_3_l2 a), []⟩, [], [], by kernel_rfl, .nil, ?_⟩
    refine ci (f := 31) (args := [.int .i64 a, .int .i64 0, .int .i64 1]) (fn := Try.f31) (c := bdy Try.f31) rfl (fun R5 hR5 => ?_)
    refine ck 10 [] [(3, .bool true), (7, .bool true)] fun γ6 => ⟨⟨kt (bdy Try.f31) [1, 1] [], (thread_1_3_l3 a), []⟩, [], [Value.bool (decide ((0 : Int) ≤ a)) = .bool true, Value.bool (decide ((a : Int) ≤ 1)) = .bool true], by kernel_rfl, (.cons (cbT (by omega)) (.cons (cbT (by omega)) .nil)), ?_⟩
    refine crm hR5 (.bool true) [] [] [] ?_
    refine ck 5 [] [(3, .int .i64 (a - 1))] fun γ7 => ⟨⟨kt (bdy Try.f28) [1, 1, 1, 1] [], (thread_1_3_l4 a), []⟩, [], [Value.int .i64 (Int.tmod a 1) = .int .i64 (a - 1)], by kernel_rfl, (.cons (congrArg (Value.int .i64) (rem_hi (by omega) (by omega))) .nil), ?_⟩
    refine rt (.int .i64 (a - 1)) [] [] (fun W hW => ?_)
    exact ⟨by rw [show thF 1 a = a - 1 from th_hi (by omega)], (hW.old 0 rfl)⟩
def thread_2_0_l0 (a : Int) : List Value := [.int .i64 2, .int .i64 a, zz, zz, .int .i64 0, .int .i64 2, zz, zz, zz, zz, zz, zz, zz, zz, zz, zz]
def thread_2_0_l1 : List Value := [.int .i64 2, .int .i64 0, .int .i64 4, zz, zz, zz, .int .i64 2, .int .i64 2, .int .i64 0, .bool false, zz, .int .i64 2, .int .i64 4, .int .i64 2]
def thread_2_0_l2 (a : Int) : List Value := [.int .i64 2, .int .i64 a, zz, zz, .int .i64 0, .int .i64 2, .int .i64 2, .int .i64 a, .int .i64 2, .int .i64 4, .int .i64 3, zz, zz, zz, zz, zz]
def thread_2_0_l3 (a : Int) : List Value := [.int .i64 a, .int .i64 0, .int .i64 3, zz, zz, zz, .bool false, .int .i64 0, .int .i64 a, .bool false, .bool false, zz, zz, zz, .bool false]
def thread_2_0_l4 (a : Int) : List Value := [.int .i64 2, .int .i64 a, zz, zz, .int .i64 (-1), .int .i64 2, .int .i64 2, .int .i64 a, .int .i64 2, .int .i64 4, .int .i64 3, .bool false, .bool true, zz, zz, zz]
def thread_2_1_l0 (a : Int) : List Value := [.int .i64 2, .int .i64 a, zz, zz, .int .i64 0, .int .i64 2, zz, zz, zz, zz, zz, zz, zz, zz, zz, zz]
def thread_2_1_l1 : List Value := [.int .i64 2, .int .i64 0, .int .i64 4, zz, zz, zz, .int .i64 2, .int .i64 2, .int .i64 0, .bool false, zz, .int .i64 2, .int .i64 4, .int .i64 2]
def thread_2_1_l2 (a : Int) : List Value := [.int .i64 2, .int .i64 a, zz, zz, .int .i64 0, .int .i64 2, .int .i64 2, .int .i64 a, .int .i64 2, .int .i64 4, .int .i64 3, zz, zz, zz, zz, zz]
def thread_2_1_l3 (a : Int) : List Value := [.int .i64 a, .int .i64 0, .int .i64 3, zz, zz, zz, .bool false, .int .i64 0, .int .i64 a, .bool true, .bool true, .int .i64 a, .int .i64 3, .bool false, .bool false]
def thread_2_1_l4 (a : Int) : List Value := [.int .i64 2, .int .i64 a, zz, zz, .int .i64 (-1), .int .i64 2, .int .i64 2, .int .i64 a, .int .i64 2, .int .i64 4, .int .i64 3, .bool false, .bool true, zz, zz, zz]
def thread_2_2_l0 (a : Int) : List Value := [.int .i64 2, .int .i64 a, zz, zz, .int .i64 0, .int .i64 2, zz, zz, zz, zz, zz, zz, zz, zz, zz, zz]
def thread_2_2_l1 : List Value := [.int .i64 2, .int .i64 0, .int .i64 4, zz, zz, zz, .int .i64 2, .int .i64 2, .int .i64 0, .bool false, zz, .int .i64 2, .int .i64 4, .int .i64 2]
def thread_2_2_l2 (a : Int) : List Value := [.int .i64 2, .int .i64 a, zz, zz, .int .i64 0, .int .i64 2, .int .i64 2, .int .i64 a, .int .i64 2, .int .i64 4, .int .i64 3, zz, zz, zz, zz, zz]
def thread_2_2_l3 (a : Int) : List Value := [.int .i64 a, .int .i64 0, .int .i64 3, zz, zz, zz, .bool true, .int .i64 0, .int .i64 a, .bool true, .bool true, .int .i64 a, .int .i64 3, .bool true, .bool true]
def thread_2_2_l4 (a : Int) : List Value := [.int .i64 2, .int .i64 a, zz, zz, .int .i64 a, .int .i64 2, .int .i64 2, .int .i64 a, .int .i64 2, .int .i64 4, .int .i64 3, .bool true, .bool false, .int .i64 a, .int .i64 2, .int .i64 a]
def thread_2_3_l0 (a : Int) : List Value := [.int .i64 2, .int .i64 a, zz, zz, .int .i64 0, .int .i64 2, zz, zz, zz, zz, zz, zz, zz, zz, zz, zz]
def thread_2_3_l1 : List Value := [.int .i64 2, .int .i64 0, .int .i64 4, zz, zz, zz, .int .i64 2, .int .i64 2, .int .i64 0, .bool false, zz, .int .i64 2, .int .i64 4, .int .i64 2]
def thread_2_3_l2 (a : Int) : List Value := [.int .i64 2, .int .i64 a, zz, zz, .int .i64 0, .int .i64 2, .int .i64 2, .int .i64 a, .int .i64 2, .int .i64 4, .int .i64 3, zz, zz, zz, zz, zz]
def thread_2_3_l3 (a : Int) : List Value := [.int .i64 a, .int .i64 0, .int .i64 3, zz, zz, zz, .bool true, .int .i64 0, .int .i64 a, .bool true, .bool true, .int .i64 a, .int .i64 3, .bool true, .bool true]
def thread_2_3_l4 (a : Int) : List Value := [.int .i64 2, .int .i64 a, zz, zz, .int .i64 (a - 2), .int .i64 2, .int .i64 2, .int .i64 a, .int .i64 2, .int .i64 4, .int .i64 3, .bool true, .bool false, .int .i64 a, .int .i64 2, .int .i64 (a - 2)]
set_option maxHeartbeats 8000000 in
set_option maxRecDepth 100000 in
theorem thread_2 (a : Int) (w : World) : Calls Try.prog 28 #[.int .i64 2, .int .i64 a] w fun e w' => e = .returned (.int .i64 (thF 2 a)) ∧ Below w.heap.size w w' := by
  have hc : a < 0 ∨ (0 ≤ a ∧ 4 ≤ a) ∨ (0 ≤ a ∧ a < 2) ∨ (2 ≤ a ∧ a < 4) := by omega
  rcases hc with hc | hc | hc | hc
  · skip
    refine enter (args := [.int .i64 2, .int .i64 a]) (fn := Try.f28) rfl (c := bdy Try.f28) (by kernel_rfl) ?_
    refine ck 2 [] [] fun γ1 => ⟨⟨kt (bdy Try.f28) [1, 0, 1] [], (thread_2_0_l0 a), []⟩, [], [], by kernel_rfl, .nil, ?_⟩
    refine ci (f := 26) (args := [.int .i64 2, .int .i64 0, .int .i64 4]) (fn := Try.f26) (c := bdy Try.f26) rfl (fun R2 hR2 => ?_)
    refine ck 8 [] [] fun γ3 => ⟨⟨kt (bdy Try.f26) [1, 1, 1] [], thread_2_0_l1, []⟩, [], [], by kernel_rfl, .nil, ?_⟩
    refine crm hR2 (.int .i64 2) [] [] [] ?_
    refine ck 5 [] [] fun γ4 => ⟨⟨kt (bdy Try.f28) [1, 1, 0, 0, 4] [], (thread_2_0_l2 a), []⟩, [], [], by kernel_rfl, .nil, ?_⟩
    refine ci (f := 31) (args := [.int .i64 a, .int .i64 0, .int .i64 3]) (fn := Try.f31) (c := bdy Try.f31) rfl (fun R5 hR5 => ?_)
    refine ck 10 [] [(3, .bool false)] fun γ6 => ⟨⟨kt (bdy Try.f31) [1, 1] [], (thread_2_0_l3 a), []⟩, [], [Value.bool (decide ((0 : Int) ≤ a)) = .bool false], by kernel_rfl, (.cons (cbF (by omega)) .nil), ?_⟩
    refine crm hR5 (.bool false) [] [] [] ?_
    refine ck 2 [] [] fun γ7 => ⟨⟨kt (bdy Try.f28) [1, 1, 0, 1, 0, 1] [], (thread_2_0_l4 a), []⟩, [], [], by kernel_rfl, .nil, ?_⟩
    refine rt (.int .i64 (-1)) [] [] (fun W hW => ?_)
    exact ⟨by rw [show thF 2 a = -1 from th_no (by omega)], (hW.old 0 rfl)⟩
  · skip
    refine enter (args := [.int .i64 2, .int .i64 a]) (fn := Try.f28) rfl (c := bdy Try.f28) (by kernel_rfl) ?_
    refine ck 2 [] [] fun γ1 => ⟨⟨kt (bdy Try.f28) [1, 0, 1] [], (thread_2_1_l0 a), []⟩, [], [], by kernel_rfl, .nil, ?_⟩
    refine ci (f := 26) (args := [.int .i64 2, .int .i64 0, .int .i64 4]) (fn := Try.f26) (c := bdy Try.f26) rfl (fun R2 hR2 => ?_)
    refine ck 8 [] [] fun γ3 => ⟨⟨kt (bdy Try.f26) [1, 1, 1] [], thread_2_1_l1, []⟩, [], [], by kernel_rfl, .nil, ?_⟩
    refine crm hR2 (.int .i64 2) [] [] [] ?_
    refine ck 5 [] [] fun γ4 => ⟨⟨kt (bdy Try.f28) [1, 1, 0, 0, 4] [], (thread_2_1_l2 a), []⟩, [], [], by kernel_rfl, .nil, ?_⟩
    refine ci (f := 31) (args := [.int .i64 a, .int .i64 0, .int .i64 3]) (fn := Try.f31) (c := bdy Try.f31) rfl (fun R5 hR5 => ?_)
    refine ck 10 [] [(3, .bool true), (7, .bool false)] fun γ6 => ⟨⟨kt (bdy Try.f31) [1, 1] [], (thread_2_1_l3 a), []⟩, [], [Value.bool (decide ((0 : Int) ≤ a)) = .bool true, Value.bool (decide ((a : Int) ≤ 3)) = .bool false], by kernel_rfl, (.cons (cbT (by omega)) (.cons (cbF (by omega)) .nil)), ?_⟩
    refine crm hR5 (.bool false) [] [] [] ?_
    refine ck 2 [] [] fun γ7 => ⟨⟨kt (bdy Try.f28) [1, 1, 0, 1, 0, 1] [], (thread_2_1_l4 a), []⟩, [], [], by kernel_rfl, .nil, ?_⟩
    refine rt (.int .i64 (-1)) [] [] (fun W hW => ?_)
    exact ⟨by rw [show thF 2 a = -1 from th_no (by omega)], (hW.old 0 rfl)⟩
  · skip
    refine enter (args := [.int .i64 2, .int .i64 a]) (fn := Try.f28) rfl (c := bdy Try.f28) (by kernel_rfl) ?_
    refine ck 2 [] [] fun γ1 => ⟨⟨kt (bdy Try.f28) [1, 0, 1] [], (thread_2_2_l0 a), []⟩, [], [], by kernel_rfl, .nil, ?_⟩
    refine ci (f := 26) (args := [.int .i64 2, .int .i64 0, .int .i64 4]) (fn := Try.f26) (c := bdy Try.f26) rfl (fun R2 hR2 => ?_)
    refine ck 8 [] [] fun γ3 => ⟨⟨kt (bdy Try.f26) [1, 1, 1] [], thread_2_2_l1, []⟩, [], [], by kernel_rfl, .nil, ?_⟩
    refine crm hR2 (.int .i64 2) [] [] [] ?_
    refine ck 5 [] [] fun γ4 => ⟨⟨kt (bdy Try.f28) [1, 1, 0, 0, 4] [], (thread_2_2_l2 a), []⟩, [], [], by kernel_rfl, .nil, ?_⟩
    refine ci (f := 31) (args := [.int .i64 a, .int .i64 0, .int .i64 3]) (fn := Try.f31) (c := bdy Try.f31) rfl (fun R5 hR5 => ?_)
    refine ck 10 [] [(3, .bool true), (7, .bool true)] fun γ6 => ⟨⟨kt (bdy Try.f31) [1, 1] [], (thread_2_2_l3 a), []⟩, [], [Value.bool (decide ((0 : Int) ≤ a)) = .bool true, Value.bool (decide ((a : Int) ≤ 3)) = .bool true], by kernel_rfl, (.cons (cbT (by omega)) (.cons (cbT (by omega)) .nil)), ?_⟩
    refine crm hR5 (.bool true) [] [] [] ?_
    refine ck 5 [] [(3, .int .i64 a)] fun γ7 => ⟨⟨kt (bdy Try.f28) [1, 1, 1, 1] [], (thread_2_2_l4 a), []⟩, [], [Value.int .i64 (Int.tmod a 2) = .int .i64 a], by kernel_rfl, (.cons (congrArg (Value.int .i64) (rem_lo (by omega))) .nil), ?_⟩
    refine rt (.int .i64 a) [] [] (fun W hW => ?_)
    exact ⟨by rw [show thF 2 a = a from th_lo (by omega)], (hW.old 0 rfl)⟩
  · skip
    refine enter (args := [.int .i64 2, .int .i64 a]) (fn := Try.f28) rfl (c := bdy Try.f28) (by kernel_rfl) ?_
    refine ck 2 [] [] fun γ1 => ⟨⟨kt (bdy Try.f28) [1, 0, 1] [], (thread_2_3_l0 a), []⟩, [], [], by kernel_rfl, .nil, ?_⟩
    refine ci (f := 26) (args := [.int .i64 2, .int .i64 0, .int .i64 4]) (fn := Try.f26) (c := bdy Try.f26) rfl (fun R2 hR2 => ?_)
    refine ck 8 [] [] fun γ3 => ⟨⟨kt (bdy Try.f26) [1, 1, 1] [], thread_2_3_l1, []⟩, [], [], by kernel_rfl, .nil, ?_⟩
    refine crm hR2 (.int .i64 2) [] [] [] ?_
    refine ck 5 [] [] fun γ4 => ⟨⟨kt (bdy Try.f28) [1, 1, 0, 0, 4] [], (thread_2_3_l2 a), []⟩, [], [], by kernel_rfl, .nil, ?_⟩
    refine ci (f := 31) (args := [.int .i64 a, .int .i64 0, .int .i64 3]) (fn := Try.f31) (c := bdy Try.f31) rfl (fun R5 hR5 => ?_)
    refine ck 10 [] [(3, .bool true), (7, .bool true)] fun γ6 => ⟨⟨kt (bdy Try.f31) [1, 1] [], (thread_2_3_l3 a), []⟩, [], [Value.bool (decide ((0 : Int) ≤ a)) = .bool true, Value.bool (decide ((a : Int) ≤ 3)) = .bool true], by kernel_rfl, (.cons (cbT (by omega)) (.cons (cbT (by omega)) .nil)), ?_⟩
    refine crm hR5 (.bool true) [] [] [] ?_
    refine ck 5 [] [(3, .int .i64 (a - 2))] fun γ7 => ⟨⟨kt (bdy Try.f28) [1, 1, 1, 1] [], (thread_2_3_l4 a), []⟩, [], [Value.int .i64 (Int.tmod a 2) = .int .i64 (a - 2)], by kernel_rfl, (.cons (congrArg (Value.int .i64) (rem_hi (by omega) (by omega))) .nil), ?_⟩
    refine rt (.int .i64 (a - 2)) [] [] (fun W hW => ?_)
    exact ⟨by rw [show thF 2 a = a - 2 from th_hi (by omega)], (hW.old 0 rfl)⟩
def thread_3_0_l0 (a : Int) : List Value := [.int .i64 3, .int .i64 a, zz, zz, .int .i64 0, .int .i64 3, zz, zz, zz, zz, zz, zz, zz, zz, zz, zz]
def thread_3_0_l1 : List Value := [.int .i64 3, .int .i64 0, .int .i64 4, zz, zz, zz, .int .i64 3, .int .i64 3, .int .i64 0, .bool false, zz, .int .i64 3, .int .i64 4, .int .i64 3]
def thread_3_0_l2 (a : Int) : List Value := [.int .i64 3, .int .i64 a, zz, zz, .int .i64 0, .int .i64 3, .int .i64 3, .int .i64 a, .int .i64 3, .int .i64 6, .int .i64 5, zz, zz, zz, zz, zz]
def thread_3_0_l3 (a : Int) : List Value := [.int .i64 a, .int .i64 0, .int .i64 5, zz, zz, zz, .bool false, .int .i64 0, .int .i64 a, .bool false, .bool false, zz, zz, zz, .bool false]
def thread_3_0_l4 (a : Int) : List Value := [.int .i64 3, .int .i64 a, zz, zz, .int .i64 (-1), .int .i64 3, .int .i64 3, .int .i64 a, .int .i64 3, .int .i64 6, .int .i64 5, .bool false, .bool true, zz, zz, zz]
def thread_3_1_l0 (a : Int) : List Value := [.int .i64 3, .int .i64 a, zz, zz, .int .i64 0, .int .i64 3, zz, zz, zz, zz, zz, zz, zz, zz, zz, zz]
def thread_3_1_l1 : List Value := [.int .i64 3, .int .i64 0, .int .i64 4, zz, zz, zz, .int .i64 3, .int .i64 3, .int .i64 0, .bool false, zz, .int .i64 3, .int .i64 4, .int .i64 3]
def thread_3_1_l2 (a : Int) : List Value := [.int .i64 3, .int .i64 a, zz, zz, .int .i64 0, .int .i64 3, .int .i64 3, .int .i64 a, .int .i64 3, .int .i64 6, .int .i64 5, zz, zz, zz, zz, zz]
def thread_3_1_l3 (a : Int) : List Value := [.int .i64 a, .int .i64 0, .int .i64 5, zz, zz, zz, .bool false, .int .i64 0, .int .i64 a, .bool true, .bool true, .int .i64 a, .int .i64 5, .bool false, .bool false]
def thread_3_1_l4 (a : Int) : List Value := [.int .i64 3, .int .i64 a, zz, zz, .int .i64 (-1), .int .i64 3, .int .i64 3, .int .i64 a, .int .i64 3, .int .i64 6, .int .i64 5, .bool false, .bool true, zz, zz, zz]
def thread_3_2_l0 (a : Int) : List Value := [.int .i64 3, .int .i64 a, zz, zz, .int .i64 0, .int .i64 3, zz, zz, zz, zz, zz, zz, zz, zz, zz, zz]
def thread_3_2_l1 : List Value := [.int .i64 3, .int .i64 0, .int .i64 4, zz, zz, zz, .int .i64 3, .int .i64 3, .int .i64 0, .bool false, zz, .int .i64 3, .int .i64 4, .int .i64 3]
def thread_3_2_l2 (a : Int) : List Value := [.int .i64 3, .int .i64 a, zz, zz, .int .i64 0, .int .i64 3, .int .i64 3, .int .i64 a, .int .i64 3, .int .i64 6, .int .i64 5, zz, zz, zz, zz, zz]
def thread_3_2_l3 (a : Int) : List Value := [.int .i64 a, .int .i64 0, .int .i64 5, zz, zz, zz, .bool true, .int .i64 0, .int .i64 a, .bool true, .bool true, .int .i64 a, .int .i64 5, .bool true, .bool true]
def thread_3_2_l4 (a : Int) : List Value := [.int .i64 3, .int .i64 a, zz, zz, .int .i64 a, .int .i64 3, .int .i64 3, .int .i64 a, .int .i64 3, .int .i64 6, .int .i64 5, .bool true, .bool false, .int .i64 a, .int .i64 3, .int .i64 a]
def thread_3_3_l0 (a : Int) : List Value := [.int .i64 3, .int .i64 a, zz, zz, .int .i64 0, .int .i64 3, zz, zz, zz, zz, zz, zz, zz, zz, zz, zz]
def thread_3_3_l1 : List Value := [.int .i64 3, .int .i64 0, .int .i64 4, zz, zz, zz, .int .i64 3, .int .i64 3, .int .i64 0, .bool false, zz, .int .i64 3, .int .i64 4, .int .i64 3]
def thread_3_3_l2 (a : Int) : List Value := [.int .i64 3, .int .i64 a, zz, zz, .int .i64 0, .int .i64 3, .int .i64 3, .int .i64 a, .int .i64 3, .int .i64 6, .int .i64 5, zz, zz, zz, zz, zz]
def thread_3_3_l3 (a : Int) : List Value := [.int .i64 a, .int .i64 0, .int .i64 5, zz, zz, zz, .bool true, .int .i64 0, .int .i64 a, .bool true, .bool true, .int .i64 a, .int .i64 5, .bool true, .bool true]
def thread_3_3_l4 (a : Int) : List Value := [.int .i64 3, .int .i64 a, zz, zz, .int .i64 (a - 3), .int .i64 3, .int .i64 3, .int .i64 a, .int .i64 3, .int .i64 6, .int .i64 5, .bool true, .bool false, .int .i64 a, .int .i64 3, .int .i64 (a - 3)]
set_option maxHeartbeats 8000000 in
set_option maxRecDepth 100000 in
theorem thread_3 (a : Int) (w : World) : Calls Try.prog 28 #[.int .i64 3, .int .i64 a] w fun e w' => e = .returned (.int .i64 (thF 3 a)) ∧ Below w.heap.size w w' := by
  have hc : a < 0 ∨ (0 ≤ a ∧ 6 ≤ a) ∨ (0 ≤ a ∧ a < 3) ∨ (3 ≤ a ∧ a < 6) := by omega
  rcases hc with hc | hc | hc | hc
  · skip
    refine enter (args := [.int .i64 3, .int .i64 a]) (fn := Try.f28) rfl (c := bdy Try.f28) (by kernel_rfl) ?_
    refine ck 2 [] [] fun γ1 => ⟨⟨kt (bdy Try.f28) [1, 0, 1] [], (thread_3_0_l0 a), []⟩, [], [], by kernel_rfl, .nil, ?_⟩
    refine ci (f := 26) (args := [.int .i64 3, .int .i64 0, .int .i64 4]) (fn := Try.f26) (c := bdy Try.f26) rfl (fun R2 hR2 => ?_)
    refine ck 8 [] [] fun γ3 => ⟨⟨kt (bdy Try.f26) [1, 1, 1] [], thread_3_0_l1, []⟩, [], [], by kernel_rfl, .nil, ?_⟩
    refine crm hR2 (.int .i64 3) [] [] [] ?_
    refine ck 5 [] [] fun γ4 => ⟨⟨kt (bdy Try.f28) [1, 1, 0, 0, 4] [], (thread_3_0_l2 a), []⟩, [], [], by kernel_rfl, .nil, ?_⟩
    refine ci (f := 31) (args := [.int .i64 a, .int .i64 0, .int .i64 5]) (fn := Try.f31) (c := bdy Try.f31) rfl (fun R5 hR5 => ?_)
    refine ck 10 [] [(3, .bool false)] fun γ6 => ⟨⟨kt (bdy Try.f31) [1, 1] [], (thread_3_0_l3 a), []⟩, [], [Value.bool (decide ((0 : Int) ≤ a)) = .bool false], by kernel_rfl, (.cons (cbF (by omega)) .nil), ?_⟩
    refine crm hR5 (.bool false) [] [] [] ?_
    refine ck 2 [] [] fun γ7 => ⟨⟨kt (bdy Try.f28) [1, 1, 0, 1, 0, 1] [], (thread_3_0_l4 a), []⟩, [], [], by kernel_rfl, .nil, ?_⟩
    refine rt (.int .i64 (-1)) [] [] (fun W hW => ?_)
    exact ⟨by rw [show thF 3 a = -1 from th_no (by omega)], (hW.old 0 rfl)⟩
  · skip
    refine enter (args := [.int .i64 3, .int .i64 a]) (fn := Try.f28) rfl (c := bdy Try.f28) (by kernel_rfl) ?_
    refine ck 2 [] [] fun γ1 => ⟨⟨kt (bdy Try.f28) [1, 0, 1] [], (thread_3_1_l0 a), []⟩, [], [], by kernel_rfl, .nil, ?_⟩
    refine ci (f := 26) (args := [.int .i64 3, .int .i64 0, .int .i64 4]) (fn := Try.f26) (c := bdy Try.f26) rfl (fun R2 hR2 => ?_)
    refine ck 8 [] [] fun γ3 => ⟨⟨kt (bdy Try.f26) [1, 1, 1] [], thread_3_1_l1, []⟩, [], [], by kernel_rfl, .nil, ?_⟩
    refine crm hR2 (.int .i64 3) [] [] [] ?_
    refine ck 5 [] [] fun γ4 => ⟨⟨kt (bdy Try.f28) [1, 1, 0, 0, 4] [], (thread_3_1_l2 a), []⟩, [], [], by kernel_rfl, .nil, ?_⟩
    refine ci (f := 31) (args := [.int .i64 a, .int .i64 0, .int .i64 5]) (fn := Try.f31) (c := bdy Try.f31) rfl (fun R5 hR5 => ?_)
    refine ck 10 [] [(3, .bool true), (7, .bool false)] fun γ6 => ⟨⟨kt (bdy Try.f31) [1, 1] [], (thread_3_1_l3 a), []⟩, [], [Value.bool (decide ((0 : Int) ≤ a)) = .bool true, Value.bool (decide ((a : Int) ≤ 5)) = .bool false], by kernel_rfl, (.cons (cbT (by omega)) (.cons (cbF (by omega)) .nil)), ?_⟩
    refine crm hR5 (.bool false) [] [] [] ?_
    refine ck 2 [] [] fun γ7 => ⟨⟨kt (bdy Try.f28) [1, 1, 0, 1, 0, 1] [], (thread_3_1_l4 a), []⟩, [], [], by kernel_rfl, .nil, ?_⟩
    refine rt (.int .i64 (-1)) [] [] (fun W hW => ?_)
    exact ⟨by rw [show thF 3 a = -1 from th_no (by omega)], (hW.old 0 rfl)⟩
  · skip
    refine enter (args := [.int .i64 3, .int .i64 a]) (fn := Try.f28) rfl (c := bdy Try.f28) (by kernel_rfl) ?_
    refine ck 2 [] [] fun γ1 => ⟨⟨kt (bdy Try.f28) [1, 0, 1] [], (thread_3_2_l0 a), []⟩, [], [], by kernel_rfl, .nil, ?_⟩
    refine ci (f := 26) (args := [.int .i64 3, .int .i64 0, .int .i64 4]) (fn := Try.f26) (c := bdy Try.f26) rfl (fun R2 hR2 => ?_)
    refine ck 8 [] [] fun γ3 => ⟨⟨kt (bdy Try.f26) [1, 1, 1] [], thread_3_2_l1, []⟩, [], [], by kernel_rfl, .nil, ?_⟩
    refine crm hR2 (.int .i64 3) [] [] [] ?_
    refine ck 5 [] [] fun γ4 => ⟨⟨kt (bdy Try.f28) [1, 1, 0, 0, 4] [], (thread_3_2_l2 a), []⟩, [], [], by kernel_rfl, .nil, ?_⟩
    refine ci (f := 31) (args := [.int .i64 a, .int .i64 0, .int .i64 5]) (fn := Try.f31) (c := bdy Try.f31) rfl (fun R5 hR5 => ?_)
    refine ck 10 [] [(3, .bool true), (7, .bool true)] fun γ6 => ⟨⟨kt (bdy Try.f31) [1, 1] [], (thread_3_2_l3 a), []⟩, [], [Value.bool (decide ((0 : Int) ≤ a)) = .bool true, Value.bool (decide ((a : Int) ≤ 5)) = .bool true], by kernel_rfl, (.cons (cbT (by omega)) (.cons (cbT (by omega)) .nil)), ?_⟩
    refine crm hR5 (.bool true) [] [] [] ?_
    refine ck 5 [] [(3, .int .i64 a)] fun γ7 => ⟨⟨kt (bdy Try.f28) [1, 1, 1, 1] [], (thread_3_2_l4 a), []⟩, [], [Value.int .i64 (Int.tmod a 3) = .int .i64 a], by kernel_rfl, (.cons (congrArg (Value.int .i64) (rem_lo (by omega))) .nil), ?_⟩
    refine rt (.int .i64 a) [] [] (fun W hW => ?_)
    exact ⟨by rw [show thF 3 a = a from th_lo (by omega)], (hW.old 0 rfl)⟩
  · skip
    refine enter (args := [.int .i64 3, .int .i64 a]) (fn := Try.f28) rfl (c := bdy Try.f28) (by kernel_rfl) ?_
    refine ck 2 [] [] fun γ1 => ⟨⟨kt (bdy Try.f28) [1, 0, 1] [], (thread_3_3_l0 a), []⟩, [], [], by kernel_rfl, .nil, ?_⟩
    refine ci (f := 26) (args := [.int .i64 3, .int .i64 0, .int .i64 4]) (fn := Try.f26) (c := bdy Try.f26) rfl (fun R2 hR2 => ?_)
    refine ck 8 [] [] fun γ3 => ⟨⟨kt (bdy Try.f26) [1, 1, 1] [], thread_3_3_l1, []⟩, [], [], by kernel_rfl, .nil, ?_⟩
    refine crm hR2 (.int .i64 3) [] [] [] ?_
    refine ck 5 [] [] fun γ4 => ⟨⟨kt (bdy Try.f28) [1, 1, 0, 0, 4] [], (thread_3_3_l2 a), []⟩, [], [], by kernel_rfl, .nil, ?_⟩
    refine ci (f := 31) (args := [.int .i64 a, .int .i64 0, .int .i64 5]) (fn := Try.f31) (c := bdy Try.f31) rfl (fun R5 hR5 => ?_)
    refine ck 10 [] [(3, .bool true), (7, .bool true)] fun γ6 => ⟨⟨kt (bdy Try.f31) [1, 1] [], (thread_3_3_l3 a), []⟩, [], [Value.bool (decide ((0 : Int) ≤ a)) = .bool true, Value.bool (decide ((a : Int) ≤ 5)) = .bool true], by kernel_rfl, (.cons (cbT (by omega)) (.cons (cbT (by omega)) .nil)), ?_⟩
    refine crm hR5 (.bool true) [] [] [] ?_
    refine ck 5 [] [(3, .int .i64 (a - 3))] fun γ7 => ⟨⟨kt (bdy Try.f28) [1, 1, 1, 1] [], (thread_3_3_l4 a), []⟩, [], [Value.int .i64 (Int.tmod a 3) = .int .i64 (a - 3)], by kernel_rfl, (.cons (congrArg (Value.int .i64) (rem_hi (by omega) (by omega))) .nil), ?_⟩
    refine rt (.int .i64 (a - 3)) [] [] (fun W hW => ?_)
    exact ⟨by rw [show thF 3 a = a - 3 from th_hi (by omega)], (hW.old 0 rfl)⟩
def thread_4_0_l0 (a : Int) : List Value := [.int .i64 4, .int .i64 a, zz, zz, .int .i64 0, .int .i64 4, zz, zz, zz, zz, zz, zz, zz, zz, zz, zz]
def thread_4_0_l1 : List Value := [.int .i64 4, .int .i64 0, .int .i64 4, zz, zz, zz, .int .i64 4, .int .i64 4, .int .i64 0, .bool false, zz, .int .i64 4, .int .i64 4, .int .i64 4]
def thread_4_0_l2 (a : Int) : List Value := [.int .i64 4, .int .i64 a, zz, zz, .int .i64 0, .int .i64 4, .int .i64 4, .int .i64 a, .int .i64 4, .int .i64 8, .int .i64 7, zz, zz, zz, zz, zz]
def thread_4_0_l3 (a : Int) : List Value := [.int .i64 a, .int .i64 0, .int .i64 7, zz, zz, zz, .bool false, .int .i64 0, .int .i64 a, .bool false, .bool false, zz, zz, zz, .bool false]
def thread_4_0_l4 (a : Int) : List Value := [.int .i64 4, .int .i64 a, zz, zz, .int .i64 (-1), .int .i64 4, .int .i64 4, .int .i64 a, .int .i64 4, .int .i64 8, .int .i64 7, .bool false, .bool true, zz, zz, zz]
def thread_4_1_l0 (a : Int) : List Value := [.int .i64 4, .int .i64 a, zz, zz, .int .i64 0, .int .i64 4, zz, zz, zz, zz, zz, zz, zz, zz, zz, zz]
def thread_4_1_l1 : List Value := [.int .i64 4, .int .i64 0, .int .i64 4, zz, zz, zz, .int .i64 4, .int .i64 4, .int .i64 0, .bool false, zz, .int .i64 4, .int .i64 4, .int .i64 4]
def thread_4_1_l2 (a : Int) : List Value := [.int .i64 4, .int .i64 a, zz, zz, .int .i64 0, .int .i64 4, .int .i64 4, .int .i64 a, .int .i64 4, .int .i64 8, .int .i64 7, zz, zz, zz, zz, zz]
def thread_4_1_l3 (a : Int) : List Value := [.int .i64 a, .int .i64 0, .int .i64 7, zz, zz, zz, .bool false, .int .i64 0, .int .i64 a, .bool true, .bool true, .int .i64 a, .int .i64 7, .bool false, .bool false]
def thread_4_1_l4 (a : Int) : List Value := [.int .i64 4, .int .i64 a, zz, zz, .int .i64 (-1), .int .i64 4, .int .i64 4, .int .i64 a, .int .i64 4, .int .i64 8, .int .i64 7, .bool false, .bool true, zz, zz, zz]
def thread_4_2_l0 (a : Int) : List Value := [.int .i64 4, .int .i64 a, zz, zz, .int .i64 0, .int .i64 4, zz, zz, zz, zz, zz, zz, zz, zz, zz, zz]
def thread_4_2_l1 : List Value := [.int .i64 4, .int .i64 0, .int .i64 4, zz, zz, zz, .int .i64 4, .int .i64 4, .int .i64 0, .bool false, zz, .int .i64 4, .int .i64 4, .int .i64 4]
def thread_4_2_l2 (a : Int) : List Value := [.int .i64 4, .int .i64 a, zz, zz, .int .i64 0, .int .i64 4, .int .i64 4, .int .i64 a, .int .i64 4, .int .i64 8, .int .i64 7, zz, zz, zz, zz, zz]
def thread_4_2_l3 (a : Int) : List Value := [.int .i64 a, .int .i64 0, .int .i64 7, zz, zz, zz, .bool true, .int .i64 0, .int .i64 a, .bool true, .bool true, .int .i64 a, .int .i64 7, .bool true, .bool true]
def thread_4_2_l4 (a : Int) : List Value := [.int .i64 4, .int .i64 a, zz, zz, .int .i64 a, .int .i64 4, .int .i64 4, .int .i64 a, .int .i64 4, .int .i64 8, .int .i64 7, .bool true, .bool false, .int .i64 a, .int .i64 4, .int .i64 a]
def thread_4_3_l0 (a : Int) : List Value := [.int .i64 4, .int .i64 a, zz, zz, .int .i64 0, .int .i64 4, zz, zz, zz, zz, zz, zz, zz, zz, zz, zz]
def thread_4_3_l1 : List Value := [.int .i64 4, .int .i64 0, .int .i64 4, zz, zz, zz, .int .i64 4, .int .i64 4, .int .i64 0, .bool false, zz, .int .i64 4, .int .i64 4, .int .i64 4]
def thread_4_3_l2 (a : Int) : List Value := [.int .i64 4, .int .i64 a, zz, zz, .int .i64 0, .int .i64 4, .int .i64 4, .int .i64 a, .int .i64 4, .int .i64 8, .int .i64 7, zz, zz, zz, zz, zz]
def thread_4_3_l3 (a : Int) : List Value := [.int .i64 a, .int .i64 0, .int .i64 7, zz, zz, zz, .bool true, .int .i64 0, .int .i64 a, .bool true, .bool true, .int .i64 a, .int .i64 7, .bool true, .bool true]
def thread_4_3_l4 (a : Int) : List Value := [.int .i64 4, .int .i64 a, zz, zz, .int .i64 (a - 4), .int .i64 4, .int .i64 4, .int .i64 a, .int .i64 4, .int .i64 8, .int .i64 7, .bool true, .bool false, .int .i64 a, .int .i64 4, .int .i64 (a - 4)]
set_option maxHeartbeats 8000000 in
set_option maxRecDepth 100000 in
theorem thread_4 (a : Int) (w : World) : Calls Try.prog 28 #[.int .i64 4, .int .i64 a] w fun e w' => e = .returned (.int .i64 (thF 4 a)) ∧ Below w.heap.size w w' := by
  have hc : a < 0 ∨ (0 ≤ a ∧ 8 ≤ a) ∨ (0 ≤ a ∧ a < 4) ∨ (4 ≤ a ∧ a < 8) := by omega
  rcases hc with hc | hc | hc | hc
  · skip
    refine enter (args := [.int .i64 4, .int .i64 a]) (fn := Try.f28) rfl (c := bdy Try.f28) (by kernel_rfl) ?_
    refine ck 2 [] [] fun γ1 => ⟨⟨kt (bdy Try.f28) [1, 0, 1] [], (thread_4_0_l0 a), []⟩, [], [], by kernel_rfl, .nil, ?_⟩
    refine ci (f := 26) (args := [.int .i64 4, .int .i64 0, .int .i64 4]) (fn := Try.f26) (c := bdy Try.f26) rfl (fun R2 hR2 => ?_)
    refine ck 8 [] [] fun γ3 => ⟨⟨kt (bdy Try.f26) [1, 1, 1] [], thread_4_0_l1, []⟩, [], [], by kernel_rfl, .nil, ?_⟩
    refine crm hR2 (.int .i64 4) [] [] [] ?_
    refine ck 5 [] [] fun γ4 => ⟨⟨kt (bdy Try.f28) [1, 1, 0, 0, 4] [], (thread_4_0_l2 a), []⟩, [], [], by kernel_rfl, .nil, ?_⟩
    refine ci (f := 31) (args := [.int .i64 a, .int .i64 0, .int .i64 7]) (fn := Try.f31) (c := bdy Try.f31) rfl (fun R5 hR5 => ?_)
    refine ck 10 [] [(3, .bool false)] fun γ6 => ⟨⟨kt (bdy Try.f31) [1, 1] [], (thread_4_0_l3 a), []⟩, [], [Value.bool (decide ((0 : Int) ≤ a)) = .bool false], by kernel_rfl, (.cons (cbF (by omega)) .nil), ?_⟩
    refine crm hR5 (.bool false) [] [] [] ?_
    refine ck 2 [] [] fun γ7 => ⟨⟨kt (bdy Try.f28) [1, 1, 0, 1, 0, 1] [], (thread_4_0_l4 a), []⟩, [], [], by kernel_rfl, .nil, ?_⟩
    refine rt (.int .i64 (-1)) [] [] (fun W hW => ?_)
    exact ⟨by rw [show thF 4 a = -1 from th_no (by omega)], (hW.old 0 rfl)⟩
  · skip
    refine enter (args := [.int .i64 4, .int .i64 a]) (fn := Try.f28) rfl (c := bdy Try.f28) (by kernel_rfl) ?_
    refine ck 2 [] [] fun γ1 => ⟨⟨kt (bdy Try.f28) [1, 0, 1] [], (thread_4_1_l0 a), []⟩, [], [], by kernel_rfl, .nil, ?_⟩
    refine ci (f := 26) (args := [.int .i64 4, .int .i64 0, .int .i64 4]) (fn := Try.f26) (c := bdy Try.f26) rfl (fun R2 hR2 => ?_)
    refine ck 8 [] [] fun γ3 => ⟨⟨kt (bdy Try.f26) [1, 1, 1] [], thread_4_1_l1, []⟩, [], [], by kernel_rfl, .nil, ?_⟩
    refine crm hR2 (.int .i64 4) [] [] [] ?_
    refine ck 5 [] [] fun γ4 => ⟨⟨kt (bdy Try.f28) [1, 1, 0, 0, 4] [], (thread_4_1_l2 a), []⟩, [], [], by kernel_rfl, .nil, ?_⟩
    refine ci (f := 31) (args := [.int .i64 a, .int .i64 0, .int .i64 7]) (fn := Try.f31) (c := bdy Try.f31) rfl (fun R5 hR5 => ?_)
    refine ck 10 [] [(3, .bool true), (7, .bool false)] fun γ6 => ⟨⟨kt (bdy Try.f31) [1, 1] [], (thread_4_1_l3 a), []⟩, [], [Value.bool (decide ((0 : Int) ≤ a)) = .bool true, Value.bool (decide ((a : Int) ≤ 7)) = .bool false], by kernel_rfl, (.cons (cbT (by omega)) (.cons (cbF (by omega)) .nil)), ?_⟩
    refine crm hR5 (.bool false) [] [] [] ?_
    refine ck 2 [] [] fun γ7 => ⟨⟨kt (bdy Try.f28) [1, 1, 0, 1, 0, 1] [], (thread_4_1_l4 a), []⟩, [], [], by kernel_rfl, .nil, ?_⟩
    refine rt (.int .i64 (-1)) [] [] (fun W hW => ?_)
    exact ⟨by rw [show thF 4 a = -1 from th_no (by omega)], (hW.old 0 rfl)⟩
  · skip
    refine enter (args := [.int .i64 4, .int .i64 a]) (fn := Try.f28) rfl (c := bdy Try.f28) (by kernel_rfl) ?_
    refine ck 2 [] [] fun γ1 => ⟨⟨kt (bdy Try.f28) [1, 0, 1] [], (thread_4_2_l0 a), []⟩, [], [], by kernel_rfl, .nil, ?_⟩
    refine ci (f := 26) (args := [.int .i64 4, .int .i64 0, .int .i64 4]) (fn := Try.f26) (c := bdy Try.f26) rfl (fun R2 hR2 => ?_)
    refine ck 8 [] [] fun γ3 => ⟨⟨kt (bdy Try.f26) [1, 1, 1] [], thread_4_2_l1, []⟩, [], [], by kernel_rfl, .nil, ?_⟩
    refine crm hR2 (.int .i64 4) [] [] [] ?_
    refine ck 5 [] [] fun γ4 => ⟨⟨kt (bdy Try.f28) [1, 1, 0, 0, 4] [], (thread_4_2_l2 a), []⟩, [], [], by kernel_rfl, .nil, ?_⟩
    refine ci (f := 31) (args := [.int .i64 a, .int .i64 0, .int .i64 7]) (fn := Try.f31) (c := bdy Try.f31) rfl (fun R5 hR5 => ?_)
    refine ck 10 [] [(3, .bool true), (7, .bool true)] fun γ6 => ⟨⟨kt (bdy Try.f31) [1, 1] [], (thread_4_2_l3 a), []⟩, [], [Value.bool (decide ((0 : Int) ≤ a)) = .bool true, Value.bool (decide ((a : Int) ≤ 7)) = .bool true], by kernel_rfl, (.cons (cbT (by omega)) (.cons (cbT (by omega)) .nil)), ?_⟩
    refine crm hR5 (.bool true) [] [] [] ?_
    refine ck 5 [] [(3, .int .i64 a)] fun γ7 => ⟨⟨kt (bdy Try.f28) [1, 1, 1, 1] [], (thread_4_2_l4 a), []⟩, [], [Value.int .i64 (Int.tmod a 4) = .int .i64 a], by kernel_rfl, (.cons (congrArg (Value.int .i64) (rem_lo (by omega))) .nil), ?_⟩
    refine rt (.int .i64 a) [] [] (fun W hW => ?_)
    exact ⟨by rw [show thF 4 a = a from th_lo (by omega)], (hW.old 0 rfl)⟩
  · skip
    refine enter (args := [.int .i64 4, .int .i64 a]) (fn := Try.f28) rfl (c := bdy Try.f28) (by kernel_rfl) ?_
    refine ck 2 [] [] fun γ1 => ⟨⟨kt (bdy Try.f28) [1, 0, 1] [], (thread_4_3_l0 a), []⟩, [], [], by kernel_rfl, .nil, ?_⟩
    refine ci (f := 26) (args := [.int .i64 4, .int .i64 0, .int .i64 4]) (fn := Try.f26) (c := bdy Try.f26) rfl (fun R2 hR2 => ?_)
    refine ck 8 [] [] fun γ3 => ⟨⟨kt (bdy Try.f26) [1, 1, 1] [], thread_4_3_l1, []⟩, [], [], by kernel_rfl, .nil, ?_⟩
    refine crm hR2 (.int .i64 4) [] [] [] ?_
    refine ck 5 [] [] fun γ4 => ⟨⟨kt (bdy Try.f28) [1, 1, 0, 0, 4] [], (thread_4_3_l2 a), []⟩, [], [], by kernel_rfl, .nil, ?_⟩
    refine ci (f := 31) (args := [.int .i64 a, .int .i64 0, .int .i64 7]) (fn := Try.f31) (c := bdy Try.f31) rfl (fun R5 hR5 => ?_)
    refine ck 10 [] [(3, .bool true), (7, .bool true)] fun γ6 => ⟨⟨kt (bdy Try.f31) [1, 1] [], (thread_4_3_l3 a), []⟩, [], [Value.bool (decide ((0 : Int) ≤ a)) = .bool true, Value.bool (decide ((a : Int) ≤ 7)) = .bool true], by kernel_rfl, (.cons (cbT (by omega)) (.cons (cbT (by omega)) .nil)), ?_⟩
    refine crm hR5 (.bool true) [] [] [] ?_
    refine ck 5 [] [(3, .int .i64 (a - 4))] fun γ7 => ⟨⟨kt (bdy Try.f28) [1, 1, 1, 1] [], (thread_4_3_l4 a), []⟩, [], [Value.int .i64 (Int.tmod a 4) = .int .i64 (a - 4)], by kernel_rfl, (.cons (congrArg (Value.int .i64) (rem_hi (by omega) (by omega))) .nil), ?_⟩
    refine rt (.int .i64 (a - 4)) [] [] (fun W hW => ?_)
    exact ⟨by rw [show thF 4 a = a - 4 from th_hi (by omega)], (hW.old 0 rfl)⟩
theorem thread_n (t : Nat) (ht : t ≤ 4) (a : Int) (w : World) : Calls Try.prog 28 #[.int .i64 ((t : Nat) : Int), .int .i64 a] w fun e w' => e = .returned (.int .i64 (thF t a)) ∧ Below w.heap.size w w' := by
  rcases (show t = 0 ∨ t = 1 ∨ t = 2 ∨ t = 3 ∨ t = 4 by omega) with rfl | rfl | rfl | rfl | rfl
  · exact thread_0 a w
  · exact thread_1 a w
  · exact thread_2 a w
  · exact thread_3 a w
  · exact thread_4 a w
def of_0_0_l0 (a : Int) : List Value := [.int .i64 0, .int .i64 a, zz, zz, .int .i64 (-1), .int .i64 0, .bool false, .int .i64 a, .bool true, .bool true, zz, zz, zz, zz, .bool true, zz]
def of_0_0_l1 : List Value := [zz, zz]
def of_0_0_b2 (a : Int) : List Value := (of_0_0_l0 a) ++ (of_0_0_l1)
def of_0_1_l0 (a : Int) : List Value := [.int .i64 0, .int .i64 a, zz, zz, .int .i64 (-1), .int .i64 0, .bool false, .int .i64 a, .bool false, .bool false, .int .i64 a, .int .i64 0, .int .i64 0, .bool true, .bool true, zz]
def of_0_1_l1 : List Value := [zz, zz]
def of_0_1_b2 (a : Int) : List Value := (of_0_1_l0 a) ++ (of_0_1_l1)
set_option maxHeartbeats 8000000 in
set_option maxRecDepth 100000 in
theorem of_0 (a : Int) (w : World) : Calls Try.prog 17 #[.int .i64 0, .int .i64 a] w fun e w' => e = .returned (.int .i64 (thF 0 a)) ∧ Below w.heap.size w w' := by
  have hc : a < 0 ∨ (0 ≤ a ∧ 0 ≤ a) := by omega
  rcases hc with hc | hc
  · skip
    refine enter (args := [.int .i64 0, .int .i64 a]) (fn := Try.f17) rfl (c := bdy Try.f17) (by kernel_rfl) ?_
    refine ck 12 [] [(4, .bool true)] fun γ1 => ⟨⟨kt (bdy Try.f17) [1, 1, 0, 1, 0, 1] [], (of_0_0_b2 a), []⟩, [], [Value.bool (decide ((a : Int) < 0)) = .bool true], by kernel_rfl, (.cons (cbT (by omega)) .nil), ?_⟩
    refine rt (.int .i64 (-1)) [] [] (fun W hW => ?_)
    exact ⟨by rw [show thF 0 a = -1 from th_no (by omega)], (hW.old 0 rfl)⟩
  · skip
    refine enter (args := [.int .i64 0, .int .i64 a]) (fn := Try.f17) rfl (c := bdy Try.f17) (by kernel_rfl) ?_
    refine ck 12 [] [(4, .bool false), (9, .bool true)] fun γ1 => ⟨⟨kt (bdy Try.f17) [1, 1, 0, 1, 0, 1] [], (of_0_1_b2 a), []⟩, [], [Value.bool (decide ((a : Int) < 0)) = .bool false, Value.bool (decide ((a : Int) ≥ 0)) = .bool true], by kernel_rfl, (.cons (cbF (by omega)) (.cons (cbT (by omega)) .nil)), ?_⟩
    refine rt (.int .i64 (-1)) [] [] (fun W hW => ?_)
    exact ⟨by rw [show thF 0 a = -1 from th_no (by omega)], (hW.old 0 rfl)⟩
def of_1_0_l0 (a : Int) : List Value := [.int .i64 1, .int .i64 a, zz, zz, .int .i64 (-1), .int .i64 1, .bool false, .int .i64 a, .bool true, .bool true, zz, zz, zz, zz, .bool true, zz]
def of_1_0_l1 : List Value := [zz, zz]
def of_1_0_b2 (a : Int) : List Value := (of_1_0_l0 a) ++ (of_1_0_l1)
def of_1_1_l0 (a : Int) : List Value := [.int .i64 1, .int .i64 a, zz, zz, .int .i64 (-1), .int .i64 1, .bool false, .int .i64 a, .bool false, .bool false, .int .i64 a, .int .i64 1, .int .i64 2, .bool true, .bool true, zz]
def of_1_1_l1 : List Value := [zz, zz]
def of_1_1_b2 (a : Int) : List Value := (of_1_1_l0 a) ++ (of_1_1_l1)
def of_1_2_l0 (a : Int) : List Value := [.int .i64 1, .int .i64 a, zz, zz, .int .i64 a, .int .i64 1, .bool false, .int .i64 a, .bool false, .bool false, .int .i64 a, .int .i64 1, .int .i64 2, .bool false, .bool false, .int .i64 a]
def of_1_2_l1 (a : Int) : List Value := [.int .i64 1, .int .i64 a]
def of_1_2_b2 (a : Int) : List Value := (of_1_2_l0 a) ++ ((of_1_2_l1 a))
def of_1_3_l0 (a : Int) : List Value := [.int .i64 1, .int .i64 a, zz, zz, .int .i64 (a - 1), .int .i64 1, .bool false, .int .i64 a, .bool false, .bool false, .int .i64 a, .int .i64 1, .int .i64 2, .bool false, .bool false, .int .i64 a]
def of_1_3_l1 (a : Int) : List Value := [.int .i64 1, .int .i64 (a - 1)]
def of_1_3_b2 (a : Int) : List Value := (of_1_3_l0 a) ++ ((of_1_3_l1 a))
set_option maxHeartbeats 8000000 in
set_option maxRecDepth 100000 in
theorem of_1 (a : Int) (w : World) : Calls Try.prog 17 #[.int .i64 1, .int .i64 a] w fun e w' => e = .returned (.int .i64 (thF 1 a)) ∧ Below w.heap.size w w' := by
  have hc : a < 0 ∨ (0 ≤ a ∧ 2 ≤ a) ∨ (0 ≤ a ∧ a < 1) ∨ (1 ≤ a ∧ a < 2) := by omega
  rcases hc with hc | hc | hc | hc
  · skip
    refine enter (args := [.int .i64 1, .int .i64 a]) (fn := Try.f17) rfl (c := bdy Try.f17) (by kernel_rfl) ?_
    refine ck 12 [] [(4, .bool true)] fun γ1 => ⟨⟨kt (bdy Try.f17) [1, 1, 0, 1, 0, 1] [], (of_1_0_b2 a), []⟩, [], [Value.bool (decide ((a : Int) < 0)) = .bool true], by kernel_rfl, (.cons (cbT (by omega)) .nil), ?_⟩
    refine rt (.int .i64 (-1)) [] [] (fun W hW => ?_)
    exact ⟨by rw [show thF 1 a = -1 from th_no (by omega)], (hW.old 0 rfl)⟩
  · skip
    refine enter (args := [.int .i64 1, .int .i64 a]) (fn := Try.f17) rfl (c := bdy Try.f17) (by kernel_rfl) ?_
    refine ck 12 [] [(4, .bool false), (9, .bool true)] fun γ1 => ⟨⟨kt (bdy Try.f17) [1, 1, 0, 1, 0, 1] [], (of_1_1_b2 a), []⟩, [], [Value.bool (decide ((a : Int) < 0)) = .bool false, Value.bool (decide ((a : Int) ≥ 2)) = .bool true], by kernel_rfl, (.cons (cbF (by omega)) (.cons (cbT (by omega)) .nil)), ?_⟩
    refine rt (.int .i64 (-1)) [] [] (fun W hW => ?_)
    exact ⟨by rw [show thF 1 a = -1 from th_no (by omega)], (hW.old 0 rfl)⟩
  · skip
    refine enter (args := [.int .i64 1, .int .i64 a]) (fn := Try.f17) rfl (c := bdy Try.f17) (by kernel_rfl) ?_
    refine ck 15 [] [(4, .bool false), (9, .bool false), (13, .int .i64 a)] fun γ1 => ⟨⟨kt (bdy Try.f17) [1, 1, 1, 1] [], (of_1_2_b2 a), []⟩, [], [Value.bool (decide ((a : Int) < 0)) = .bool false, Value.bool (decide ((a : Int) ≥ 2)) = .bool false, Value.int .i64 (Int.tmod a 1) = .int .i64 a], by kernel_rfl, (.cons (cbF (by omega)) (.cons (cbF (by omega)) (.cons (congrArg (Value.int .i64) (rem_lo (by omega))) .nil))), ?_⟩
    refine rt (.int .i64 a) [] [] (fun W hW => ?_)
    exact ⟨by rw [show thF 1 a = a from th_lo (by omega)], (hW.old 0 rfl)⟩
  · skip
    refine enter (args := [.int .i64 1, .int .i64 a]) (fn := Try.f17) rfl (c := bdy Try.f17) (by kernel_rfl) ?_
    refine ck 15 [] [(4, .bool false), (9, .bool false), (13, .int .i64 (a - 1))] fun γ1 => ⟨⟨kt (bdy Try.f17) [1, 1, 1, 1] [], (of_1_3_b2 a), []⟩, [], [Value.bool (decide ((a : Int) < 0)) = .bool false, Value.bool (decide ((a : Int) ≥ 2)) = .bool false, Value.int .i64 (Int.tmod a 1) = .int .i64 (a - 1)], by kernel_rfl, (.cons (cbF (by omega)) (.cons (cbF (by omega)) (.cons (congrArg (Value.int .i64) (rem_hi (by omega) (by omega))) .nil))), ?_⟩
    refine rt (.int .i64 (a - 1)) [] [] (fun W hW => ?_)
    exact ⟨by rw [show thF 1 a = a - 1 from th_hi (by omega)], (hW.old 0 rfl)⟩
def of_2_0_l0 (a : Int) : List Value := [.int .i64 2, .int .i64 a, zz, zz, .int .i64 (-1), .int .i64 2, .bool false, .int .i64 a, .bool true, .bool true, zz, zz, zz, zz, .bool true, zz]
def of_2_0_l1 : List Value := [zz, zz]
def of_2_0_b2 (a : Int) : List Value := (of_2_0_l0 a) ++ (of_2_0_l1)
def of_2_1_l0 (a : Int) : List Value := [.int .i64 2, .int .i64 a, zz, zz, .int .i64 (-1), .int .i64 2, .bool false, .int .i64 a, .bool false, .bool false, .int .i64 a, .int .i64 2, .int .i64 4, .bool true, .bool true, zz]
def of_2_1_l1 : List Value := [zz, zz]
def of_2_1_b2 (a : Int) : List Value := (of_2_1_l0 a) ++ (of_2_1_l1)
def of_2_2_l0 (a : Int) : List Value := [.int .i64 2, .int .i64 a, zz, zz, .int .i64 a, .int .i64 2, .bool false, .int .i64 a, .bool false, .bool false, .int .i64 a, .int .i64 2, .int .i64 4, .bool false, .bool false, .int .i64 a]
def of_2_2_l1 (a : Int) : List Value := [.int .i64 2, .int .i64 a]
def of_2_2_b2 (a : Int) : List Value := (of_2_2_l0 a) ++ ((of_2_2_l1 a))
def of_2_3_l0 (a : Int) : List Value := [.int .i64 2, .int .i64 a, zz, zz, .int .i64 (a - 2), .int .i64 2, .bool false, .int .i64 a, .bool false, .bool false, .int .i64 a, .int .i64 2, .int .i64 4, .bool false, .bool false, .int .i64 a]
def of_2_3_l1 (a : Int) : List Value := [.int .i64 2, .int .i64 (a - 2)]
def of_2_3_b2 (a : Int) : List Value := (of_2_3_l0 a) ++ ((of_2_3_l1 a))
set_option maxHeartbeats 8000000 in
set_option maxRecDepth 100000 in
theorem of_2 (a : Int) (w : World) : Calls Try.prog 17 #[.int .i64 2, .int .i64 a] w fun e w' => e = .returned (.int .i64 (thF 2 a)) ∧ Below w.heap.size w w' := by
  have hc : a < 0 ∨ (0 ≤ a ∧ 4 ≤ a) ∨ (0 ≤ a ∧ a < 2) ∨ (2 ≤ a ∧ a < 4) := by omega
  rcases hc with hc | hc | hc | hc
  · skip
    refine enter (args := [.int .i64 2, .int .i64 a]) (fn := Try.f17) rfl (c := bdy Try.f17) (by kernel_rfl) ?_
    refine ck 12 [] [(4, .bool true)] fun γ1 => ⟨⟨kt (bdy Try.f17) [1, 1, 0, 1, 0, 1] [], (of_2_0_b2 a), []⟩, [], [Value.bool (decide ((a : Int) < 0)) = .bool true], by kernel_rfl, (.cons (cbT (by omega)) .nil), ?_⟩
    refine rt (.int .i64 (-1)) [] [] (fun W hW => ?_)
    exact ⟨by rw [show thF 2 a = -1 from th_no (by omega)], (hW.old 0 rfl)⟩
  · skip
    refine enter (args := [.int .i64 2, .int .i64 a]) (fn := Try.f17) rfl (c := bdy Try.f17) (by kernel_rfl) ?_
    refine ck 12 [] [(4, .bool false), (9, .bool true)] fun γ1 => ⟨⟨kt (bdy Try.f17) [1, 1, 0, 1, 0, 1] [], (of_2_1_b2 a), []⟩, [], [Value.bool (decide ((a : Int) < 0)) = .bool false, Value.bool (decide ((a : Int) ≥ 4)) = .bool true], by kernel_rfl, (.cons (cbF (by omega)) (.cons (cbT (by omega)) .nil)), ?_⟩
    refine rt (.int .i64 (-1)) [] [] (fun W hW => ?_)
    exact ⟨by rw [show thF 2 a = -1 from th_no (by omega)], (hW.old 0 rfl)⟩
  · skip
    refine enter (args := [.int .i64 2, .int .i64 a]) (fn := Try.f17) rfl (c := bdy Try.f17) (by kernel_rfl) ?_
    refine ck 15 [] [(4, .bool false), (9, .bool false), (13, .int .i64 a)] fun γ1 => ⟨⟨kt (bdy Try.f17) [1, 1, 1, 1] [], (of_2_2_b2 a), []⟩, [], [Value.bool (decide ((a : Int) < 0)) = .bool false, Value.bool (decide ((a : Int) ≥ 4)) = .bool false, Value.int .i64 (Int.tmod a 2) = .int .i64 a], by kernel_rfl, (.cons (cbF (by omega)) (.cons (cbF (by omega)) (.cons (congrArg (Value.int .i64) (rem_lo (by omega))) .nil))), ?_⟩
    refine rt (.int .i64 a) [] [] (fun W hW => ?_)
    exact ⟨by rw [show thF 2 a = a from th_lo (by omega)], (hW.old 0 rfl)⟩
  · skip
    refine enter (args := [.int .i64 2, .int .i64 a]) (fn := Try.f17) rfl (c := bdy Try.f17) (by kernel_rfl) ?_
    refine ck 15 [] [(4, .bool false), (9, .bool false), (13, .int .i64 (a - 2))] fun γ1 => ⟨⟨kt (bdy Try.f17) [1, 1, 1, 1] [], (of_2_3_b2 a), []⟩, [], [Value.bool (decide ((a : Int) < 0)) = .bool false, Value.bool (decide ((a : Int) ≥ 4)) = .bool false, Value.int .i64 (Int.tmod a 2) = .int .i64 (a - 2)], by kernel_rfl, (.cons (cbF (by omega)) (.cons (cbF (by omega)) (.cons (congrArg (Value.int .i64) (rem_hi (by omega) (by omega))) .nil))), ?_⟩
    refine rt (.int .i64 (a - 2)) [] [] (fun W hW => ?_)
    exact ⟨by rw [show thF 2 a = a - 2 from th_hi (by omega)], (hW.old 0 rfl)⟩
def of_3_0_l0 (a : Int) : List Value := [.int .i64 3, .int .i64 a, zz, zz, .int .i64 (-1), .int .i64 3, .bool false, .int .i64 a, .bool true, .bool true, zz, zz, zz, zz, .bool true, zz]
def of_3_0_l1 : List Value := [zz, zz]
def of_3_0_b2 (a : Int) : List Value := (of_3_0_l0 a) ++ (of_3_0_l1)
def of_3_1_l0 (a : Int) : List Value := [.int .i64 3, .int .i64 a, zz, zz, .int .i64 (-1), .int .i64 3, .bool false, .int .i64 a, .bool false, .bool false, .int .i64 a, .int .i64 3, .int .i64 6, .bool true, .bool true, zz]
def of_3_1_l1 : List Value := [zz, zz]
def of_3_1_b2 (a : Int) : List Value := (of_3_1_l0 a) ++ (of_3_1_l1)
def of_3_2_l0 (a : Int) : List Value := [.int .i64 3, .int .i64 a, zz, zz, .int .i64 a, .int .i64 3, .bool false, .int .i64 a, .bool false, .bool false, .int .i64 a, .int .i64 3, .int .i64 6, .bool false, .bool false, .int .i64 a]
def of_3_2_l1 (a : Int) : List Value := [.int .i64 3, .int .i64 a]
def of_3_2_b2 (a : Int) : List Value := (of_3_2_l0 a) ++ ((of_3_2_l1 a))
def of_3_3_l0 (a : Int) : List Value := [.int .i64 3, .int .i64 a, zz, zz, .int .i64 (a - 3), .int .i64 3, .bool false, .int .i64 a, .bool false, .bool false, .int .i64 a, .int .i64 3, .int .i64 6, .bool false, .bool false, .int .i64 a]
def of_3_3_l1 (a : Int) : List Value := [.int .i64 3, .int .i64 (a - 3)]
def of_3_3_b2 (a : Int) : List Value := (of_3_3_l0 a) ++ ((of_3_3_l1 a))
set_option maxHeartbeats 8000000 in
set_option maxRecDepth 100000 in
theorem of_3 (a : Int) (w : World) : Calls Try.prog 17 #[.int .i64 3, .int .i64 a] w fun e w' => e = .returned (.int .i64 (thF 3 a)) ∧ Below w.heap.size w w' := by
  have hc : a < 0 ∨ (0 ≤ a ∧ 6 ≤ a) ∨ (0 ≤ a ∧ a < 3) ∨ (3 ≤ a ∧ a < 6) := by omega
  rcases hc with hc | hc | hc | hc
  · skip
    refine enter (args := [.int .i64 3, .int .i64 a]) (fn := Try.f17) rfl (c := bdy Try.f17) (by kernel_rfl) ?_
    refine ck 12 [] [(4, .bool true)] fun γ1 => ⟨⟨kt (bdy Try.f17) [1, 1, 0, 1, 0, 1] [], (of_3_0_b2 a), []⟩, [], [Value.bool (decide ((a : Int) < 0)) = .bool true], by kernel_rfl, (.cons (cbT (by omega)) .nil), ?_⟩
    refine rt (.int .i64 (-1)) [] [] (fun W hW => ?_)
    exact ⟨by rw [show thF 3 a = -1 from th_no (by omega)], (hW.old 0 rfl)⟩
  · skip
    refine enter (args := [.int .i64 3, .int .i64 a]) (fn := Try.f17) rfl (c := bdy Try.f17) (by kernel_rfl) ?_
    refine ck 12 [] [(4, .bool false), (9, .bool true)] fun γ1 => ⟨⟨kt (bdy Try.f17) [1, 1, 0, 1, 0, 1] [], (of_3_1_b2 a), []⟩, [], [Value.bool (decide ((a : Int) < 0)) = .bool false, Value.bool (decide ((a : Int) ≥ 6)) = .bool true], by kernel_rfl, (.cons (cbF (by omega)) (.cons (cbT (by omega)) .nil)), ?_⟩
    refine rt (.int .i64 (-1)) [] [] (fun W hW => ?_)
    exact ⟨by rw [show thF 3 a = -1 from th_no (by omega)], (hW.old 0 rfl)⟩
  · skip
    refine enter (args := [.int .i64 3, .int .i64 a]) (fn := Try.f17) rfl (c := bdy Try.f17) (by kernel_rfl) ?_
    refine ck 15 [] [(4, .bool false), (9, .bool false), (13, .int .i64 a)] fun γ1 => ⟨⟨kt (bdy Try.f17) [1, 1, 1, 1] [], (of_3_2_b2 a), []⟩, [], [Value.bool (decide ((a : Int) < 0)) = .bool false, Value.bool (decide ((a : Int) ≥ 6)) = .bool false, Value.int .i64 (Int.tmod a 3) = .int .i64 a], by kernel_rfl, (.cons (cbF (by omega)) (.cons (cbF (by omega)) (.cons (congrArg (Value.int .i64) (rem_lo (by omega))) .nil))), ?_⟩
    refine rt (.int .i64 a) [] [] (fun W hW => ?_)
    exact ⟨by rw [show thF 3 a = a from th_lo (by omega)], (hW.old 0 rfl)⟩
  · skip
    refine enter (args := [.int .i64 3, .int .i64 a]) (fn := Try.f17) rfl (c := bdy Try.f17) (by kernel_rfl) ?_
    refine ck 15 [] [(4, .bool false), (9, .bool false), (13, .int .i64 (a - 3))] fun γ1 => ⟨⟨kt (bdy Try.f17) [1, 1, 1, 1] [], (of_3_3_b2 a), []⟩, [], [Value.bool (decide ((a : Int) < 0)) = .bool false, Value.bool (decide ((a : Int) ≥ 6)) = .bool false, Value.int .i64 (Int.tmod a 3) = .int .i64 (a - 3)], by kernel_rfl, (.cons (cbF (by omega)) (.cons (cbF (by omega)) (.cons (congrArg (Value.int .i64) (rem_hi (by omega) (by omega))) .nil))), ?_⟩
    refine rt (.int .i64 (a - 3)) [] [] (fun W hW => ?_)
    exact ⟨by rw [show thF 3 a = a - 3 from th_hi (by omega)], (hW.old 0 rfl)⟩
def of_4_0_l0 (a : Int) : List Value := [.int .i64 4, .int .i64 a, zz, zz, .int .i64 (-1), .int .i64 4, .bool false, .int .i64 a, .bool true, .bool true, zz, zz, zz, zz, .bool true, zz]
def of_4_0_l1 : List Value := [zz, zz]
def of_4_0_b2 (a : Int) : List Value := (of_4_0_l0 a) ++ (of_4_0_l1)
def of_4_1_l0 (a : Int) : List Value := [.int .i64 4, .int .i64 a, zz, zz, .int .i64 (-1), .int .i64 4, .bool false, .int .i64 a, .bool false, .bool false, .int .i64 a, .int .i64 4, .int .i64 8, .bool true, .bool true, zz]
def of_4_1_l1 : List Value := [zz, zz]
def of_4_1_b2 (a : Int) : List Value := (of_4_1_l0 a) ++ (of_4_1_l1)
def of_4_2_l0 (a : Int) : List Value := [.int .i64 4, .int .i64 a, zz, zz, .int .i64 a, .int .i64 4, .bool false, .int .i64 a, .bool false, .bool false, .int .i64 a, .int .i64 4, .int .i64 8, .bool false, .bool false, .int .i64 a]
def of_4_2_l1 (a : Int) : List Value := [.int .i64 4, .int .i64 a]
def of_4_2_b2 (a : Int) : List Value := (of_4_2_l0 a) ++ ((of_4_2_l1 a))
def of_4_3_l0 (a : Int) : List Value := [.int .i64 4, .int .i64 a, zz, zz, .int .i64 (a - 4), .int .i64 4, .bool false, .int .i64 a, .bool false, .bool false, .int .i64 a, .int .i64 4, .int .i64 8, .bool false, .bool false, .int .i64 a]
def of_4_3_l1 (a : Int) : List Value := [.int .i64 4, .int .i64 (a - 4)]
def of_4_3_b2 (a : Int) : List Value := (of_4_3_l0 a) ++ ((of_4_3_l1 a))
set_option maxHeartbeats 8000000 in
set_option maxRecDepth 100000 in
theorem of_4 (a : Int) (w : World) : Calls Try.prog 17 #[.int .i64 4, .int .i64 a] w fun e w' => e = .returned (.int .i64 (thF 4 a)) ∧ Below w.heap.size w w' := by
  have hc : a < 0 ∨ (0 ≤ a ∧ 8 ≤ a) ∨ (0 ≤ a ∧ a < 4) ∨ (4 ≤ a ∧ a < 8) := by omega
  rcases hc with hc | hc | hc | hc
  · skip
    refine enter (args := [.int .i64 4, .int .i64 a]) (fn := Try.f17) rfl (c := bdy Try.f17) (by kernel_rfl) ?_
    refine ck 12 [] [(4, .bool true)] fun γ1 => ⟨⟨kt (bdy Try.f17) [1, 1, 0, 1, 0, 1] [], (of_4_0_b2 a), []⟩, [], [Value.bool (decide ((a : Int) < 0)) = .bool true], by kernel_rfl, (.cons (cbT (by omega)) .nil), ?_⟩
    refine rt (.int .i64 (-1)) [] [] (fun W hW => ?_)
    exact ⟨by rw [show thF 4 a = -1 from th_no (by omega)], (hW.old 0 rfl)⟩
  · skip
    refine enter (args := [.int .i64 4, .int .i64 a]) (fn := Try.f17) rfl (c := bdy Try.f17) (by kernel_rfl) ?_
    refine ck 12 [] [(4, .bool false), (9, .bool true)] fun γ1 => ⟨⟨kt (bdy Try.f17) [1, 1, 0, 1, 0, 1] [], (of_4_1_b2 a), []⟩, [], [Value.bool (decide ((a : Int) < 0)) = .bool false, Value.bool (decide ((a : Int) ≥ 8)) = .bool true], by kernel_rfl, (.cons (cbF (by omega)) (.cons (cbT (by omega)) .nil)), ?_⟩
    refine rt (.int .i64 (-1)) [] [] (fun W hW => ?_)
    exact ⟨by rw [show thF 4 a = -1 from th_no (by omega)], (hW.old 0 rfl)⟩
  · skip
    refine enter (args := [.int .i64 4, .int .i64 a]) (fn := Try.f17) rfl (c := bdy Try.f17) (by kernel_rfl) ?_
    refine ck 15 [] [(4, .bool false), (9, .bool false), (13, .int .i64 a)] fun γ1 => ⟨⟨kt (bdy Try.f17) [1, 1, 1, 1] [], (of_4_2_b2 a), []⟩, [], [Value.bool (decide ((a : Int) < 0)) = .bool false, Value.bool (decide ((a : Int) ≥ 8)) = .bool false, Value.int .i64 (Int.tmod a 4) = .int .i64 a], by kernel_rfl, (.cons (cbF (by omega)) (.cons (cbF (by omega)) (.cons (congrArg (Value.int .i64) (rem_lo (by omega))) .nil))), ?_⟩
    refine rt (.int .i64 a) [] [] (fun W hW => ?_)
    exact ⟨by rw [show thF 4 a = a from th_lo (by omega)], (hW.old 0 rfl)⟩
  · skip
    refine enter (args := [.int .i64 4, .int .i64 a]) (fn := Try.f17) rfl (c := bdy Try.f17) (by kernel_rfl) ?_
    refine ck 15 [] [(4, .bool false), (9, .bool false), (13, .int .i64 (a - 4))] fun γ1 => ⟨⟨kt (bdy Try.f17) [1, 1, 1, 1] [], (of_4_3_b2 a), []⟩, [], [Value.bool (decide ((a : Int) < 0)) = .bool false, Value.bool (decide ((a : Int) ≥ 8)) = .bool false, Value.int .i64 (Int.tmod a 4) = .int .i64 (a - 4)], by kernel_rfl, (.cons (cbF (by omega)) (.cons (cbF (by omega)) (.cons (congrArg (Value.int .i64) (rem_hi (by omega) (by omega))) .nil))), ?_⟩
    refine rt (.int .i64 (a - 4)) [] [] (fun W hW => ?_)
    exact ⟨by rw [show thF 4 a = a - 4 from th_hi (by omega)], (hW.old 0 rfl)⟩
theorem of_n (t : Nat) (ht : t ≤ 4) (a : Int) (w : World) : Calls Try.prog 17 #[.int .i64 ((t : Nat) : Int), .int .i64 a] w fun e w' => e = .returned (.int .i64 (thF t a)) ∧ Below w.heap.size w w' := by
  rcases (show t = 0 ∨ t = 1 ∨ t = 2 ∨ t = 3 ∨ t = 4 by omega) with rfl | rfl | rfl | rfl | rfl
  · exact of_0 a w
  · exact of_1 a w
  · exact of_2 a w
  · exact of_3 a w
  · exact of_4 a w
def tog_l0 (t : Nat) (x : Int) (y : Int) (Aa1 : Option Addr) (ca1 : Nat) (a1 : List P3) (Aa2 : Option Addr) (ca2 : Nat) (a2 : List P3) (Ab1 : Option Addr) (cb1 : Nat) (b1 : List P3) (Ab2 : Option Addr) (cb2 : Nat) (b2 : List P3) (γ1 : Nat → Nat) : List Value := [.int .i64 ((t : Nat) : Int), .int .i64 x, .agg #[.slice Aa1 a1.length ca1, .slice Aa2 a2.length ca2], .int .i64 y, .agg #[.slice Ab1 b1.length cb1, .slice Ab2 b2.length cb2], zz, zz, .pointer (some ⟨γ1 0, 0, none⟩), zz, .pointer (some ⟨γ1 1, 0, none⟩), .bool false, zz, .int .i64 ((t : Nat) : Int), .int .i64 x, zz, zz]
def tog_l1 : List Value := [zz, zz, zz, zz, zz, zz, zz, zz, zz, zz, zz, zz, zz]
def tog_b2 (t : Nat) (x : Int) (y : Int) (Aa1 : Option Addr) (ca1 : Nat) (a1 : List P3) (Aa2 : Option Addr) (ca2 : Nat) (a2 : List P3) (Ab1 : Option Addr) (cb1 : Nat) (b1 : List P3) (Ab2 : Option Addr) (cb2 : Nat) (b2 : List P3) (γ1 : Nat → Nat) : List Value := (tog_l0 t x y Aa1 ca1 a1 Aa2 ca2 a2 Ab1 cb1 b1 Ab2 cb2 b2 γ1) ++ (tog_l1)
def tog_c3 (Ab1 : Option Addr) (cb1 : Nat) (b1 : List P3) (Ab2 : Option Addr) (cb2 : Nat) (b2 : List P3) : List Value := [.slice Ab1 b1.length cb1, .slice Ab2 b2.length cb2]
def tog_c4 (Aa1 : Option Addr) (ca1 : Nat) (a1 : List P3) (Aa2 : Option Addr) (ca2 : Nat) (a2 : List P3) : List Value := [.slice Aa1 a1.length ca1, .slice Aa2 a2.length ca2]
def tog_l5 (t : Nat) (x : Int) (y : Int) (Aa1 : Option Addr) (ca1 : Nat) (a1 : List P3) (Aa2 : Option Addr) (ca2 : Nat) (a2 : List P3) (Ab1 : Option Addr) (cb1 : Nat) (b1 : List P3) (Ab2 : Option Addr) (cb2 : Nat) (b2 : List P3) (γ1 : Nat → Nat) : List Value := [.int .i64 ((t : Nat) : Int), .int .i64 x, .agg #[.slice Aa1 a1.length ca1, .slice Aa2 a2.length ca2], .int .i64 y, .agg #[.slice Ab1 b1.length cb1, .slice Ab2 b2.length cb2], zz, zz, .pointer (some ⟨γ1 0, 0, none⟩), zz, .pointer (some ⟨γ1 1, 0, none⟩), .bool false, .int .i64 (thF t x), .int .i64 ((t : Nat) : Int), .int .i64 x, .int .i64 (thF t x), .int .i64 (thF t x)]
def tog_l6 (t : Nat) (x : Int) (y : Int) (Aa1 : Option Addr) (ca1 : Nat) (a1 : List P3) (Aa2 : Option Addr) (ca2 : Nat) (a2 : List P3) (Ab1 : Option Addr) (cb1 : Nat) (b1 : List P3) (Ab2 : Option Addr) (cb2 : Nat) (b2 : List P3) : List Value := [.bool true, .bool true, .int .i64 (thF t x), .int .i64 ((t : Nat) : Int), .int .i64 y, .int .i64 (thF t y), .bool false, .bool false, .bool false, .agg #[.slice Aa1 a1.length ca1, .slice Aa2 a2.length ca2], .agg #[.slice Ab1 b1.length cb1, .slice Ab2 b2.length cb2], zz, zz]
def tog_b7 (t : Nat) (x : Int) (y : Int) (Aa1 : Option Addr) (ca1 : Nat) (a1 : List P3) (Aa2 : Option Addr) (ca2 : Nat) (a2 : List P3) (Ab1 : Option Addr) (cb1 : Nat) (b1 : List P3) (Ab2 : Option Addr) (cb2 : Nat) (b2 : List P3) (γ1 : Nat → Nat) : List Value := (tog_l5 t x y Aa1 ca1 a1 Aa2 ca2 a2 Ab1 cb1 b1 Ab2 cb2 b2 γ1) ++ ((tog_l6 t x y Aa1 ca1 a1 Aa2 ca2 a2 Ab1 cb1 b1 Ab2 cb2 b2))
def tog_l8 (t : Nat) (x : Int) (y : Int) (Aa1 : Option Addr) (ca1 : Nat) (a1 : List P3) (Aa2 : Option Addr) (ca2 : Nat) (a2 : List P3) (Ab1 : Option Addr) (cb1 : Nat) (b1 : List P3) (Ab2 : Option Addr) (cb2 : Nat) (b2 : List P3) (γ1 : Nat → Nat) : List Value := [.int .i64 ((t : Nat) : Int), .int .i64 x, .agg #[.slice Aa1 a1.length ca1, .slice Aa2 a2.length ca2], .int .i64 y, .agg #[.slice Ab1 b1.length cb1, .slice Ab2 b2.length cb2], zz, zz, .pointer (some ⟨γ1 0, 0, none⟩), zz, .pointer (some ⟨γ1 1, 0, none⟩), .bool true, .int .i64 (thF t x), .int .i64 ((t : Nat) : Int), .int .i64 x, .int .i64 (thF t x), .int .i64 (thF t x)]
def tog_l9 (t : Nat) (x : Int) (y : Int) : List Value := [.bool true, .bool true, .int .i64 (thF t x), .int .i64 ((t : Nat) : Int), .int .i64 y, .int .i64 (thF t y), .bool true, .bool true, .bool true, zz, zz, zz, .bool true]
def tog_b10 (t : Nat) (x : Int) (y : Int) (Aa1 : Option Addr) (ca1 : Nat) (a1 : List P3) (Aa2 : Option Addr) (ca2 : Nat) (a2 : List P3) (Ab1 : Option Addr) (cb1 : Nat) (b1 : List P3) (Ab2 : Option Addr) (cb2 : Nat) (b2 : List P3) (γ1 : Nat → Nat) : List Value := (tog_l8 t x y Aa1 ca1 a1 Aa2 ca2 a2 Ab1 cb1 b1 Ab2 cb2 b2 γ1) ++ ((tog_l9 t x y))
set_option maxHeartbeats 8000000 in
set_option maxRecDepth 100000 in
theorem tog_is {w : World} {t : Nat} (ht : t ≤ 4) (x y : Int) {Aa1 : Option Addr} {ca1 : Nat} {a1 : List P3} (ha1 : Rd w (.slice Aa1 a1.length ca1) 3 encT67 a1) (hla1 : a1.length ≤ 1000) {Aa2 : Option Addr} {ca2 : Nat} {a2 : List P3} (ha2 : Rd w (.slice Aa2 a2.length ca2) 3 encT67 a2) (hla2 : a2.length ≤ 1000) {Ab1 : Option Addr} {cb1 : Nat} {b1 : List P3} (hb1 : Rd w (.slice Ab1 b1.length cb1) 3 encT67 b1) (hlb1 : b1.length ≤ 1000) {Ab2 : Option Addr} {cb2 : Nat} {b2 : List P3} (hb2 : Rd w (.slice Ab2 b2.length cb2) 3 encT67 b2) (hlb2 : b2.length ≤ 1000) : Calls Try.prog 25 #[.int .i64 ((t : Nat) : Int), .int .i64 x, .agg #[.slice Aa1 a1.length ca1, .slice Aa2 a2.length ca2], .int .i64 y, .agg #[.slice Ab1 b1.length cb1, .slice Ab2 b2.length cb2]] w fun e w' => e = .returned (.bool (togF t x a1 a2 y b1 b2)) ∧ Below w.heap.size w w' := by
  refine enter (args := [.int .i64 ((t : Nat) : Int), .int .i64 x, .agg #[.slice Aa1 a1.length ca1, .slice Aa2 a2.length ca2], .int .i64 y, .agg #[.slice Ab1 b1.length cb1, .slice Ab2 b2.length cb2]]) (fn := Try.f25) rfl (c := bdy Try.f25) (by kernel_rfl) ?_
  refine ck 5 [] [] fun γ1 => ⟨⟨kt (bdy Try.f25) [1, 0, 2] [], (tog_b2 t x y Aa1 ca1 a1 Aa2 ca2 a2 Ab1 cb1 b1 Ab2 cb2 b2 γ1), [(γ1 1, 30, (tog_c3 Ab1 cb1 b1 Ab2 cb2 b2)), (γ1 0, 30, (tog_c4 Aa1 ca1 a1 Aa2 ca2 a2))]⟩, [], [], by kernel_rfl, .nil, ?_⟩
  refine cp (fun W hW => thread_n t ht x W) ?_
  refine ck 1 [] [] fun γ2 => ⟨⟨kt (bdy Try.f25) [1, 1, 0, 0] [], upv (tog_b2 t x y Aa1 ca1 a1 Aa2 ca2 a2 Ab1 cb1 b1 Ab2 cb2 b2 γ1) [(11, .int .i64 (thF t x)), (14, .int .i64 (thF t x))], [(γ1 1, 30, (tog_c3 Ab1 cb1 b1 Ab2 cb2 b2)), (γ1 0, 30, (tog_c4 Aa1 ca1 a1 Aa2 ca2 a2))]⟩, [], [], by kernel_rfl, .nil, ?_⟩
  have hq : thF t x < 0 ∨ (0 ≤ thF t x ∧ thF t x ≠ thF t y) ∨ (0 ≤ thF t x ∧ thF t x = thF t y) := by omega
  rcases hq with hq | hq | hq
  · skip
    have hres : togF t x a1 a2 y b1 b2 = clashB a1 a2 b1 b2 := by
      unfold togF
      rw [decide_eq_false (by omega), Bool.false_or]
    refine ck 12 [(2, 1), (2, 0)] [(1, .bool false)] fun γ3 => ⟨⟨kt (bdy Try.f25) [1, 1, 0, 12] [], upv (tog_b2 t x y Aa1 ca1 a1 Aa2 ca2 a2 Ab1 cb1 b1 Ab2 cb2 b2 γ1) [(11, .int .i64 (thF t x)), (14, .int .i64 (thF t x)), (15, .int .i64 (thF t x)), (16, .bool false), (17, .bool false), (23, .bool false), (24, .bool false), (25, .agg #[.slice Aa1 a1.length ca1, .slice Aa2 a2.length ca2]), (26, .agg #[.slice Ab1 b1.length cb1, .slice Ab2 b2.length cb2])], [(γ1 1, 30, (tog_c3 Ab1 cb1 b1 Ab2 cb2 b2)), (γ1 0, 30, (tog_c4 Aa1 ca1 a1 Aa2 ca2 a2))]⟩, [(2, γ1 0), (2, γ1 1)], [Value.bool (decide (((thF t x) : Int) ≥ 0)) = .bool false], by kernel_rfl, (.cons (cbF (by omega)) .nil), ?_⟩
    refine cp (fun W hW => clash_is (ha1.below (hW.old 0 rfl)) hla1 (ha2.below (hW.old 0 rfl)) hla2 (hb1.below (hW.old 0 rfl)) hlb1 (hb2.below (hW.old 0 rfl)) hlb2) ?_
    refine ck 2 [] [] fun γ4 => ⟨⟨kt (bdy Try.f25) [1, 1, 1] [], upv (tog_b2 t x y Aa1 ca1 a1 Aa2 ca2 a2 Ab1 cb1 b1 Ab2 cb2 b2 γ1) [(10, .bool (clashB a1 a2 b1 b2)), (11, .int .i64 (thF t x)), (14, .int .i64 (thF t x)), (15, .int .i64 (thF t x)), (16, .bool false), (17, .bool false), (23, .bool false), (24, .bool false), (25, .agg #[.slice Aa1 a1.length ca1, .slice Aa2 a2.length ca2]), (26, .agg #[.slice Ab1 b1.length cb1, .slice Ab2 b2.length cb2]), (27, .bool (clashB a1 a2 b1 b2)), (28, .bool (clashB a1 a2 b1 b2))], [(γ1 1, 30, (tog_c3 Ab1 cb1 b1 Ab2 cb2 b2)), (γ1 0, 30, (tog_c4 Aa1 ca1 a1 Aa2 ca2 a2))]⟩, [], [], by kernel_rfl, .nil, ?_⟩
    rw [hres]
    refine rt (.bool (clashB a1 a2 b1 b2)) [] [] (fun W hW => ?_)
    exact ⟨rfl, (hW.old 0 rfl)⟩
  · skip
    have hres : togF t x a1 a2 y b1 b2 = clashB a1 a2 b1 b2 := by
      unfold togF
      rw [decide_eq_false (fun h => hq.2 h.2), Bool.false_or]
    refine ck 6 [] [(1, .bool true)] fun γ5 => ⟨⟨kt (bdy Try.f25) [1, 1, 0, 6] [], upv (tog_b2 t x y Aa1 ca1 a1 Aa2 ca2 a2 Ab1 cb1 b1 Ab2 cb2 b2 γ1) [(11, .int .i64 (thF t x)), (14, .int .i64 (thF t x)), (15, .int .i64 (thF t x)), (16, .bool true), (17, .bool true), (18, .int .i64 (thF t x)), (19, .int .i64 ((t : Nat) : Int)), (20, .int .i64 y)], [(γ1 1, 30, (tog_c3 Ab1 cb1 b1 Ab2 cb2 b2)), (γ1 0, 30, (tog_c4 Aa1 ca1 a1 Aa2 ca2 a2))]⟩, [], [Value.bool (decide (((thF t x) : Int) ≥ 0)) = .bool true], by kernel_rfl, (.cons (cbT (by omega)) .nil), ?_⟩
    refine cp (fun W hW => thread_n t ht y W) ?_
    refine ck 5 [(2, 1), (2, 0)] [(0, .bool false)] fun γ6 => ⟨⟨kt (bdy Try.f25) [1, 1, 0, 12] [], (tog_b7 t x y Aa1 ca1 a1 Aa2 ca2 a2 Ab1 cb1 b1 Ab2 cb2 b2 γ1), [(γ1 1, 30, (tog_c3 Ab1 cb1 b1 Ab2 cb2 b2)), (γ1 0, 30, (tog_c4 Aa1 ca1 a1 Aa2 ca2 a2))]⟩, [(2, γ1 0), (2, γ1 1)], [Value.bool (((thF t x) : Int) == (thF t y)) = .bool false], by kernel_rfl, (.cons (cbN hq.2) .nil), ?_⟩
    refine cp (fun W hW => clash_is (ha1.below (hW.old 0 rfl)) hla1 (ha2.below (hW.old 0 rfl)) hla2 (hb1.below (hW.old 0 rfl)) hlb1 (hb2.below (hW.old 0 rfl)) hlb2) ?_
    refine ck 2 [] [] fun γ7 => ⟨⟨kt (bdy Try.f25) [1, 1, 1] [], upv (tog_b7 t x y Aa1 ca1 a1 Aa2 ca2 a2 Ab1 cb1 b1 Ab2 cb2 b2 γ1) [(10, .bool (clashB a1 a2 b1 b2)), (27, .bool (clashB a1 a2 b1 b2)), (28, .bool (clashB a1 a2 b1 b2))], [(γ1 1, 30, (tog_c3 Ab1 cb1 b1 Ab2 cb2 b2)), (γ1 0, 30, (tog_c4 Aa1 ca1 a1 Aa2 ca2 a2))]⟩, [], [], by kernel_rfl, .nil, ?_⟩
    rw [hres]
    refine rt (.bool (clashB a1 a2 b1 b2)) [] [] (fun W hW => ?_)
    exact ⟨rfl, (hW.old 0 rfl)⟩
  · skip
    have hres : togF t x a1 a2 y b1 b2 = true := by
      unfold togF
      rw [decide_eq_true hq, Bool.true_or]
    refine ck 6 [] [(1, .bool true)] fun γ8 => ⟨⟨kt (bdy Try.f25) [1, 1, 0, 6] [], upv (tog_b2 t x y Aa1 ca1 a1 Aa2 ca2 a2 Ab1 cb1 b1 Ab2 cb2 b2 γ1) [(11, .int .i64 (thF t x)), (14, .int .i64 (thF t x)), (15, .int .i64 (thF t x)), (16, .bool true), (17, .bool true), (18, .int .i64 (thF t x)), (19, .int .i64 ((t : Nat) : Int)), (20, .int .i64 y)], [(γ1 1, 30, (tog_c3 Ab1 cb1 b1 Ab2 cb2 b2)), (γ1 0, 30, (tog_c4 Aa1 ca1 a1 Aa2 ca2 a2))]⟩, [], [Value.bool (decide (((thF t x) : Int) ≥ 0)) = .bool true], by kernel_rfl, (.cons (cbT (by omega)) .nil), ?_⟩
    refine cp (fun W hW => thread_n t ht y W) ?_
    refine ck 8 [] [(0, .bool true)] fun γ9 => ⟨⟨kt (bdy Try.f25) [1, 1, 1] [], (tog_b10 t x y Aa1 ca1 a1 Aa2 ca2 a2 Ab1 cb1 b1 Ab2 cb2 b2 γ1), [(γ1 1, 30, (tog_c3 Ab1 cb1 b1 Ab2 cb2 b2)), (γ1 0, 30, (tog_c4 Aa1 ca1 a1 Aa2 ca2 a2))]⟩, [], [Value.bool (((thF t x) : Int) == (thF t y)) = .bool true], by kernel_rfl, (.cons (cbE hq.2) .nil), ?_⟩
    rw [hres]
    refine rt (.bool true) [] [] (fun W hW => ?_)
    exact ⟨rfl, (hW.old 0 rfl)⟩
def rto_l0 (t : Nat) (x : Int) (y : Int) (Aa1 : Option Addr) (ca1 : Nat) (a1 : List P3) (Aa2 : Option Addr) (ca2 : Nat) (a2 : List P3) (Ab1 : Option Addr) (cb1 : Nat) (b1 : List P3) (Ab2 : Option Addr) (cb2 : Nat) (b2 : List P3) (γ1 : Nat → Nat) : List Value := [.int .i64 ((t : Nat) : Int), .agg #[.int .i64 x, .slice Aa1 a1.length ca1, .slice Aa2 a2.length ca2], .agg #[.int .i64 y, .slice Ab1 b1.length cb1, .slice Ab2 b2.length cb2], zz, .pointer (some ⟨γ1 0, 0, none⟩), .pointer (some ⟨γ1 1, 0, none⟩), .bool false, zz, .int .i64 ((t : Nat) : Int), .pointer (some ⟨γ1 0, 0, none⟩), .int .i64 x, zz, zz, zz, zz, zz]
def rto_l1 : List Value := [zz, zz, zz, zz, zz, zz, zz, zz, zz, zz, zz, zz, zz]
def rto_b2 (t : Nat) (x : Int) (y : Int) (Aa1 : Option Addr) (ca1 : Nat) (a1 : List P3) (Aa2 : Option Addr) (ca2 : Nat) (a2 : List P3) (Ab1 : Option Addr) (cb1 : Nat) (b1 : List P3) (Ab2 : Option Addr) (cb2 : Nat) (b2 : List P3) (γ1 : Nat → Nat) : List Value := (rto_l0 t x y Aa1 ca1 a1 Aa2 ca2 a2 Ab1 cb1 b1 Ab2 cb2 b2 γ1) ++ (rto_l1)
def rto_c3 (y : Int) (Ab1 : Option Addr) (cb1 : Nat) (b1 : List P3) (Ab2 : Option Addr) (cb2 : Nat) (b2 : List P3) : List Value := [.int .i64 y, .slice Ab1 b1.length cb1, .slice Ab2 b2.length cb2]
def rto_c4 (x : Int) (Aa1 : Option Addr) (ca1 : Nat) (a1 : List P3) (Aa2 : Option Addr) (ca2 : Nat) (a2 : List P3) : List Value := [.int .i64 x, .slice Aa1 a1.length ca1, .slice Aa2 a2.length ca2]
def rto_l5 (t : Nat) (x : Int) (y : Int) (Aa1 : Option Addr) (ca1 : Nat) (a1 : List P3) (Aa2 : Option Addr) (ca2 : Nat) (a2 : List P3) (Ab1 : Option Addr) (cb1 : Nat) (b1 : List P3) (Ab2 : Option Addr) (cb2 : Nat) (b2 : List P3) (γ1 : Nat → Nat) : List Value := [.int .i64 ((t : Nat) : Int), .agg #[.int .i64 x, .slice Aa1 a1.length ca1, .slice Aa2 a2.length ca2], .agg #[.int .i64 y, .slice Ab1 b1.length cb1, .slice Ab2 b2.length cb2], zz, .pointer (some ⟨γ1 0, 0, none⟩), .pointer (some ⟨γ1 1, 0, none⟩), .bool (clashB a1 a2 b1 b2), .int .i64 (thF t x), .int .i64 ((t : Nat) : Int), .pointer (some ⟨γ1 0, 0, none⟩), .int .i64 x, .int .i64 (thF t x), .int .i64 (thF t x), .bool false, .bool false, zz]
def rto_l6 (Aa1 : Option Addr) (ca1 : Nat) (a1 : List P3) (Aa2 : Option Addr) (ca2 : Nat) (a2 : List P3) (Ab1 : Option Addr) (cb1 : Nat) (b1 : List P3) (Ab2 : Option Addr) (cb2 : Nat) (b2 : List P3) (γ1 : Nat → Nat) : List Value := [zz, zz, zz, zz, zz, .bool false, .bool false, .pointer (some ⟨γ1 0, 1, none⟩), .agg #[.slice Aa1 a1.length ca1, .slice Aa2 a2.length ca2], .pointer (some ⟨γ1 1, 1, none⟩), .agg #[.slice Ab1 b1.length cb1, .slice Ab2 b2.length cb2], .bool (clashB a1 a2 b1 b2), .bool (clashB a1 a2 b1 b2)]
def rto_b7 (t : Nat) (x : Int) (y : Int) (Aa1 : Option Addr) (ca1 : Nat) (a1 : List P3) (Aa2 : Option Addr) (ca2 : Nat) (a2 : List P3) (Ab1 : Option Addr) (cb1 : Nat) (b1 : List P3) (Ab2 : Option Addr) (cb2 : Nat) (b2 : List P3) (γ1 : Nat → Nat) : List Value := (rto_l5 t x y Aa1 ca1 a1 Aa2 ca2 a2 Ab1 cb1 b1 Ab2 cb2 b2 γ1) ++ ((rto_l6 Aa1 ca1 a1 Aa2 ca2 a2 Ab1 cb1 b1 Ab2 cb2 b2 γ1))
def rto_l8 (t : Nat) (x : Int) (y : Int) (Aa1 : Option Addr) (ca1 : Nat) (a1 : List P3) (Aa2 : Option Addr) (ca2 : Nat) (a2 : List P3) (Ab1 : Option Addr) (cb1 : Nat) (b1 : List P3) (Ab2 : Option Addr) (cb2 : Nat) (b2 : List P3) (γ1 : Nat → Nat) : List Value := [.int .i64 ((t : Nat) : Int), .agg #[.int .i64 x, .slice Aa1 a1.length ca1, .slice Aa2 a2.length ca2], .agg #[.int .i64 y, .slice Ab1 b1.length cb1, .slice Ab2 b2.length cb2], zz, .pointer (some ⟨γ1 0, 0, none⟩), .pointer (some ⟨γ1 1, 0, none⟩), .bool false, .int .i64 (thF t x), .int .i64 ((t : Nat) : Int), .pointer (some ⟨γ1 0, 0, none⟩), .int .i64 x, .int .i64 (thF t x), .int .i64 (thF t x), .bool true, .bool true, .int .i64 (thF t x)]
def rto_l9 (t : Nat) (y : Int) (Aa1 : Option Addr) (ca1 : Nat) (a1 : List P3) (Aa2 : Option Addr) (ca2 : Nat) (a2 : List P3) (Ab1 : Option Addr) (cb1 : Nat) (b1 : List P3) (Ab2 : Option Addr) (cb2 : Nat) (b2 : List P3) (γ1 : Nat → Nat) : List Value := [.int .i64 ((t : Nat) : Int), .pointer (some ⟨γ1 1, 0, none⟩), .int .i64 y, .int .i64 (thF t y), .bool false, .bool false, .bool false, .pointer (some ⟨γ1 0, 1, none⟩), .agg #[.slice Aa1 a1.length ca1, .slice Aa2 a2.length ca2], .pointer (some ⟨γ1 1, 1, none⟩), .agg #[.slice Ab1 b1.length cb1, .slice Ab2 b2.length cb2], zz, zz]
def rto_b10 (t : Nat) (x : Int) (y : Int) (Aa1 : Option Addr) (ca1 : Nat) (a1 : List P3) (Aa2 : Option Addr) (ca2 : Nat) (a2 : List P3) (Ab1 : Option Addr) (cb1 : Nat) (b1 : List P3) (Ab2 : Option Addr) (cb2 : Nat) (b2 : List P3) (γ1 : Nat → Nat) : List Value := (rto_l8 t x y Aa1 ca1 a1 Aa2 ca2 a2 Ab1 cb1 b1 Ab2 cb2 b2 γ1) ++ ((rto_l9 t y Aa1 ca1 a1 Aa2 ca2 a2 Ab1 cb1 b1 Ab2 cb2 b2 γ1))
def rto_l11 (t : Nat) (x : Int) (y : Int) (Aa1 : Option Addr) (ca1 : Nat) (a1 : List P3) (Aa2 : Option Addr) (ca2 : Nat) (a2 : List P3) (Ab1 : Option Addr) (cb1 : Nat) (b1 : List P3) (Ab2 : Option Addr) (cb2 : Nat) (b2 : List P3) (γ1 : Nat → Nat) : List Value := [.int .i64 ((t : Nat) : Int), .agg #[.int .i64 x, .slice Aa1 a1.length ca1, .slice Aa2 a2.length ca2], .agg #[.int .i64 y, .slice Ab1 b1.length cb1, .slice Ab2 b2.length cb2], zz, .pointer (some ⟨γ1 0, 0, none⟩), .pointer (some ⟨γ1 1, 0, none⟩), .bool true, .int .i64 (thF t x), .int .i64 ((t : Nat) : Int), .pointer (some ⟨γ1 0, 0, none⟩), .int .i64 x, .int .i64 (thF t x), .int .i64 (thF t x), .bool true, .bool true, .int .i64 (thF t x)]
def rto_l12 (t : Nat) (y : Int) (γ1 : Nat → Nat) : List Value := [.int .i64 ((t : Nat) : Int), .pointer (some ⟨γ1 1, 0, none⟩), .int .i64 y, .int .i64 (thF t y), .bool true, .bool true, .bool true, zz, zz, zz, zz, zz, .bool true]
def rto_b13 (t : Nat) (x : Int) (y : Int) (Aa1 : Option Addr) (ca1 : Nat) (a1 : List P3) (Aa2 : Option Addr) (ca2 : Nat) (a2 : List P3) (Ab1 : Option Addr) (cb1 : Nat) (b1 : List P3) (Ab2 : Option Addr) (cb2 : Nat) (b2 : List P3) (γ1 : Nat → Nat) : List Value := (rto_l11 t x y Aa1 ca1 a1 Aa2 ca2 a2 Ab1 cb1 b1 Ab2 cb2 b2 γ1) ++ ((rto_l12 t y γ1))
set_option maxHeartbeats 8000000 in
set_option maxRecDepth 100000 in
theorem rtog_is {w : World} {t : Nat} (ht : t ≤ 4) (x y : Int) {Aa1 : Option Addr} {ca1 : Nat} {a1 : List P3} (ha1 : Rd w (.slice Aa1 a1.length ca1) 3 encT67 a1) (hla1 : a1.length ≤ 1000) {Aa2 : Option Addr} {ca2 : Nat} {a2 : List P3} (ha2 : Rd w (.slice Aa2 a2.length ca2) 3 encT67 a2) (hla2 : a2.length ≤ 1000) {Ab1 : Option Addr} {cb1 : Nat} {b1 : List P3} (hb1 : Rd w (.slice Ab1 b1.length cb1) 3 encT67 b1) (hlb1 : b1.length ≤ 1000) {Ab2 : Option Addr} {cb2 : Nat} {b2 : List P3} (hb2 : Rd w (.slice Ab2 b2.length cb2) 3 encT67 b2) (hlb2 : b2.length ≤ 1000) : Calls Try.prog 30 #[.int .i64 ((t : Nat) : Int), .agg #[.int .i64 x, .slice Aa1 a1.length ca1, .slice Aa2 a2.length ca2], .agg #[.int .i64 y, .slice Ab1 b1.length cb1, .slice Ab2 b2.length cb2]] w fun e w' => e = .returned (.bool (togF t x a1 a2 y b1 b2)) ∧ Below w.heap.size w w' := by
  refine enter (args := [.int .i64 ((t : Nat) : Int), .agg #[.int .i64 x, .slice Aa1 a1.length ca1, .slice Aa2 a2.length ca2], .agg #[.int .i64 y, .slice Ab1 b1.length cb1, .slice Ab2 b2.length cb2]]) (fn := Try.f30) rfl (c := bdy Try.f30) (by kernel_rfl) ?_
  refine ck 6 [(1, 1)] [] fun γ1 => ⟨⟨kt (bdy Try.f30) [1, 0, 3] [], (rto_b2 t x y Aa1 ca1 a1 Aa2 ca2 a2 Ab1 cb1 b1 Ab2 cb2 b2 γ1), [(γ1 1, 32, (rto_c3 y Ab1 cb1 b1 Ab2 cb2 b2)), (γ1 0, 32, (rto_c4 x Aa1 ca1 a1 Aa2 ca2 a2))]⟩, [(1, γ1 0)], [], by kernel_rfl, .nil, ?_⟩
  refine cp (fun W hW => of_n t ht x W) ?_
  refine ck 1 [] [] fun γ2 => ⟨⟨kt (bdy Try.f30) [1, 1, 0, 0] [], upv (rto_b2 t x y Aa1 ca1 a1 Aa2 ca2 a2 Ab1 cb1 b1 Ab2 cb2 b2 γ1) [(7, .int .i64 (thF t x)), (11, .int .i64 (thF t x))], [(γ1 1, 32, (rto_c3 y Ab1 cb1 b1 Ab2 cb2 b2)), (γ1 0, 32, (rto_c4 x Aa1 ca1 a1 Aa2 ca2 a2))]⟩, [], [], by kernel_rfl, .nil, ?_⟩
  have hq : thF t x < 0 ∨ (0 ≤ thF t x ∧ thF t x ≠ thF t y) ∨ (0 ≤ thF t x ∧ thF t x = thF t y) := by omega
  rcases hq with hq | hq | hq
  · skip
    have hres : togF t x a1 a2 y b1 b2 = clashB a1 a2 b1 b2 := by
      unfold togF
      rw [decide_eq_false (by omega), Bool.false_or]
    refine ck 15 [(2, 1), (2, 0)] [(1, .bool false)] fun γ3 => ⟨⟨kt (bdy Try.f30) [1, 1, 0, 15] [], upv (rto_b2 t x y Aa1 ca1 a1 Aa2 ca2 a2 Ab1 cb1 b1 Ab2 cb2 b2 γ1) [(7, .int .i64 (thF t x)), (11, .int .i64 (thF t x)), (12, .int .i64 (thF t x)), (13, .bool false), (14, .bool false), (21, .bool false), (22, .bool false), (23, .pointer (some ⟨γ1 0, 1, none⟩)), (24, .agg #[.slice Aa1 a1.length ca1, .slice Aa2 a2.length ca2]), (25, .pointer (some ⟨γ1 1, 1, none⟩)), (26, .agg #[.slice Ab1 b1.length cb1, .slice Ab2 b2.length cb2])], [(γ1 1, 32, (rto_c3 y Ab1 cb1 b1 Ab2 cb2 b2)), (γ1 0, 32, (rto_c4 x Aa1 ca1 a1 Aa2 ca2 a2))]⟩, [(2, γ1 0), (2, γ1 1)], [Value.bool (decide (((thF t x) : Int) ≥ 0)) = .bool false], by kernel_rfl, (.cons (cbF (by omega)) .nil), ?_⟩
    refine cp (fun W hW => rclash_is (ha1.below (hW.old 0 rfl)) hla1 (ha2.below (hW.old 0 rfl)) hla2 (hb1.below (hW.old 0 rfl)) hlb1 (hb2.below (hW.old 0 rfl)) hlb2) ?_
    refine ck 2 [] [] fun γ4 => ⟨⟨kt (bdy Try.f30) [1, 1, 1] [], (rto_b7 t x y Aa1 ca1 a1 Aa2 ca2 a2 Ab1 cb1 b1 Ab2 cb2 b2 γ1), [(γ1 1, 32, (rto_c3 y Ab1 cb1 b1 Ab2 cb2 b2)), (γ1 0, 32, (rto_c4 x Aa1 ca1 a1 Aa2 ca2 a2))]⟩, [], [], by kernel_rfl, .nil, ?_⟩
    rw [hres]
    refine rt (.bool (clashB a1 a2 b1 b2)) [] [] (fun W hW => ?_)
    exact ⟨rfl, (hW.old 0 rfl)⟩
  · skip
    have hres : togF t x a1 a2 y b1 b2 = clashB a1 a2 b1 b2 := by
      unfold togF
      rw [decide_eq_false (fun h => hq.2 h.2), Bool.false_or]
    refine ck 7 [(1, 0)] [(1, .bool true)] fun γ5 => ⟨⟨kt (bdy Try.f30) [1, 1, 0, 7] [], upv (rto_b2 t x y Aa1 ca1 a1 Aa2 ca2 a2 Ab1 cb1 b1 Ab2 cb2 b2 γ1) [(7, .int .i64 (thF t x)), (11, .int .i64 (thF t x)), (12, .int .i64 (thF t x)), (13, .bool true), (14, .bool true), (15, .int .i64 (thF t x)), (16, .int .i64 ((t : Nat) : Int)), (17, .pointer (some ⟨γ1 1, 0, none⟩)), (18, .int .i64 y)], [(γ1 1, 32, (rto_c3 y Ab1 cb1 b1 Ab2 cb2 b2)), (γ1 0, 32, (rto_c4 x Aa1 ca1 a1 Aa2 ca2 a2))]⟩, [(1, γ1 1)], [Value.bool (decide (((thF t x) : Int) ≥ 0)) = .bool true], by kernel_rfl, (.cons (cbT (by omega)) .nil), ?_⟩
    refine cp (fun W hW => of_n t ht y W) ?_
    refine ck 7 [(2, 1), (2, 0)] [(0, .bool false)] fun γ6 => ⟨⟨kt (bdy Try.f30) [1, 1, 0, 15] [], (rto_b10 t x y Aa1 ca1 a1 Aa2 ca2 a2 Ab1 cb1 b1 Ab2 cb2 b2 γ1), [(γ1 1, 32, (rto_c3 y Ab1 cb1 b1 Ab2 cb2 b2)), (γ1 0, 32, (rto_c4 x Aa1 ca1 a1 Aa2 ca2 a2))]⟩, [(2, γ1 0), (2, γ1 1)], [Value.bool (((thF t x) : Int) == (thF t y)) = .bool false], by kernel_rfl, (.cons (cbN hq.2) .nil), ?_⟩
    refine cp (fun W hW => rclash_is (ha1.below (hW.old 0 rfl)) hla1 (ha2.below (hW.old 0 rfl)) hla2 (hb1.below (hW.old 0 rfl)) hlb1 (hb2.below (hW.old 0 rfl)) hlb2) ?_
    refine ck 2 [] [] fun γ7 => ⟨⟨kt (bdy Try.f30) [1, 1, 1] [], upv (rto_b10 t x y Aa1 ca1 a1 Aa2 ca2 a2 Ab1 cb1 b1 Ab2 cb2 b2 γ1) [(6, .bool (clashB a1 a2 b1 b2)), (27, .bool (clashB a1 a2 b1 b2)), (28, .bool (clashB a1 a2 b1 b2))], [(γ1 1, 32, (rto_c3 y Ab1 cb1 b1 Ab2 cb2 b2)), (γ1 0, 32, (rto_c4 x Aa1 ca1 a1 Aa2 ca2 a2))]⟩, [], [], by kernel_rfl, .nil, ?_⟩
    rw [hres]
    refine rt (.bool (clashB a1 a2 b1 b2)) [] [] (fun W hW => ?_)
    exact ⟨rfl, (hW.old 0 rfl)⟩
  · skip
    have hres : togF t x a1 a2 y b1 b2 = true := by
      unfold togF
      rw [decide_eq_true hq, Bool.true_or]
    refine ck 7 [(1, 0)] [(1, .bool true)] fun γ8 => ⟨⟨kt (bdy Try.f30) [1, 1, 0, 7] [], upv (rto_b2 t x y Aa1 ca1 a1 Aa2 ca2 a2 Ab1 cb1 b1 Ab2 cb2 b2 γ1) [(7, .int .i64 (thF t x)), (11, .int .i64 (thF t x)), (12, .int .i64 (thF t x)), (13, .bool true), (14, .bool true), (15, .int .i64 (thF t x)), (16, .int .i64 ((t : Nat) : Int)), (17, .pointer (some ⟨γ1 1, 0, none⟩)), (18, .int .i64 y)], [(γ1 1, 32, (rto_c3 y Ab1 cb1 b1 Ab2 cb2 b2)), (γ1 0, 32, (rto_c4 x Aa1 ca1 a1 Aa2 ca2 a2))]⟩, [(1, γ1 1)], [Value.bool (decide (((thF t x) : Int) ≥ 0)) = .bool true], by kernel_rfl, (.cons (cbT (by omega)) .nil), ?_⟩
    refine cp (fun W hW => of_n t ht y W) ?_
    refine ck 10 [] [(0, .bool true)] fun γ9 => ⟨⟨kt (bdy Try.f30) [1, 1, 1] [], (rto_b13 t x y Aa1 ca1 a1 Aa2 ca2 a2 Ab1 cb1 b1 Ab2 cb2 b2 γ1), [(γ1 1, 32, (rto_c3 y Ab1 cb1 b1 Ab2 cb2 b2)), (γ1 0, 32, (rto_c4 x Aa1 ca1 a1 Aa2 ca2 a2))]⟩, [], [Value.bool (((thF t x) : Int) == (thF t y)) = .bool true], by kernel_rfl, (.cons (cbE hq.2) .nil), ?_⟩
    rw [hres]
    refine rt (.bool true) [] [] (fun W hW => ?_)
    exact ⟨rfl, (hW.old 0 rfl)⟩
end Go.Proofs.Ytglkhjjhjhhonaa.Sr
