/- Places among places. No condition beside those that each theorem names. -/
import Derived.Test.YtglkhjjhjhhonaaFtA
namespace Go.Proofs.Ytglkhjjhjhhonaa.Sr
open Go.RowKit Go.Proofs.YtglkhjjhjhhonaaM.Mach
set_option linter.unusedVariables false
set_option linter.unusedSimpArgs false
abbrev P3 := Int × Int × Int
def idxP (x : P3) : List P3 → Nat → Int
  | [], _ => -1
  | y :: l, i => if x = y then (i : Int) else idxP x l (i + 1)
theorem idxP_drop {x : P3} {xs : List P3} {i : Nat} (h : i < xs.length) : idxP x (xs.drop i) i = if x = xs[i]! then (i : Int) else idxP x (xs.drop (i + 1)) (i + 1) := by
  rw [List.drop_eq_getElem_cons h, getElem!_pos xs i h]
  rfl
theorem idxP_mem (x : P3) : ∀ (l : List P3) (i : Nat), 0 ≤ idxP x l i ↔ x ∈ l
  | [], i => by simp [idxP]
  | y :: l, i => by
    unfold idxP
    split
    · rename_i e
      subst e
      simp
    · rename_i e
      rw [idxP_mem x l (i + 1)]
      simp [e]
theorem mem_get {x : P3} {xs : List P3} {i : Nat} (h : i < xs.length) (e : xs[i]! = x) : x ∈ xs := by
  rw [getElem!_pos xs i h] at e
  exact e ▸ List.getElem_mem h
theorem get_mem {xs : List P3} {i : Nat} (h : i < xs.length) : xs[i]! ∈ xs := mem_get h rfl
theorem not_mem {x : P3} {xs : List P3} (h : ∀ j, j < xs.length → xs[j]! ≠ x) : x ∉ xs := by
  intro hm
  obtain ⟨j, hj, e⟩ := List.getElem_of_mem hm
  refine h j hj ?_
  rw [getElem!_pos xs j hj]
  exact e
def clashB (a1 a2 b1 b2 : List P3) : Bool := decide ((∃ x ∈ a2, x ∈ b1 ∨ x ∈ b2) ∨ ∃ x ∈ b2, x ∈ a1)
theorem clash_t1 {a1 a2 b1 b2 : List P3} {x : P3} (h1 : x ∈ a2) (h2 : x ∈ b1 ∨ x ∈ b2) : clashB a1 a2 b1 b2 = true := decide_eq_true (.inl ⟨x, h1, h2⟩)
theorem clash_t2 {a1 a2 b1 b2 : List P3} {x : P3} (h1 : x ∈ b2) (h2 : x ∈ a1) : clashB a1 a2 b1 b2 = true := decide_eq_true (.inr ⟨x, h1, h2⟩)
theorem clash_f {a1 a2 b1 b2 : List P3} (h1 : ∀ j, j < a2.length → a2[j]! ∉ b1 ∧ a2[j]! ∉ b2) (h2 : ∀ j, j < b2.length → b2[j]! ∉ a1) : clashB a1 a2 b1 b2 = false := by
  refine decide_eq_false ?_
  rintro (⟨x, hx, hy⟩ | ⟨x, hx, hy⟩)
  · obtain ⟨j, hj, e⟩ := List.getElem_of_mem hx
    have h3 := h1 j hj
    rw [getElem!_pos a2 j hj, e] at h3
    exact hy.elim h3.1 h3.2
  · obtain ⟨j, hj, e⟩ := List.getElem_of_mem hx
    have h3 := h2 j hj
    rw [getElem!_pos b2 j hj, e] at h3
    exact h3 hy
theorem tri3 (p q : Prop) : p ∨ (¬ p ∧ q) ∨ (¬ p ∧ ¬ q) := by
  by_cases h : p
  · exact .inl h
  · by_cases h2 : q
    · exact .inr (.inl ⟨h, h2⟩)
    · exact .inr (.inr ⟨h, h2⟩)
def has_l0 (A : Option Addr) (c : Nat) (xs : List P3) (x0 : Int) (x1 : Int) (x2 : Int) (γ1 : Nat → Nat) : List Value := [.slice A xs.length c, .agg #[.int .i64 x0, .int .i64 x1, .int .i64 x2], zz, .pointer (some ⟨γ1 0, 0, none⟩), .bool false, .int .i64 0, zz, zz, zz, zz, zz, zz, zz, zz, zz, zz]
def has_l1 : List Value := [zz, zz]
def has_b2 (A : Option Addr) (c : Nat) (xs : List P3) (x0 : Int) (x1 : Int) (x2 : Int) (γ1 : Nat → Nat) : List Value := (has_l0 A c xs x0 x1 x2 γ1) ++ (has_l1)
def has_c3 (x0 : Int) (x1 : Int) (x2 : Int) : List Value := [.int .i64 x0, .int .i64 x1, .int .i64 x2]
def has_l4 (A : Option Addr) (c : Nat) (xs : List P3) (x0 : Int) (x1 : Int) (x2 : Int) (γ1 : Nat → Nat) (z2 : Nat → Value) (i : Nat) : List Value := [.slice A xs.length c, .agg #[.int .i64 x0, .int .i64 x1, .int .i64 x2], zz, .pointer (some ⟨γ1 0, 0, none⟩), z2 4, .int .i64 (i : Int), z2 6, z2 7, z2 8, z2 9, z2 10, z2 11, z2 12, z2 13, z2 14, z2 15]
def has_l5 (z2 : Nat → Value) : List Value := [z2 16, z2 17]
def has_b6 (A : Option Addr) (c : Nat) (xs : List P3) (x0 : Int) (x1 : Int) (x2 : Int) (γ1 : Nat → Nat) (z2 : Nat → Value) (i : Nat) : List Value := (has_l4 A c xs x0 x1 x2 γ1 z2 i) ++ ((has_l5 z2))
abbrev has_2X := (Nat → Value) × Nat
def has_2s (A : Option Addr) (c : Nat) (xs : List P3) (x0 : Int) (x1 : Int) (x2 : Int) (γ1 : Nat → Nat) (x : has_2X) : List Value × List Blk := ((has_b6 A c xs x0 x1 x2 γ1 (x.1) (x.2)), [(γ1 0, 67, (has_c3 x0 x1 x2))])
def has_2k (A : Option Addr) (c : Nat) (xs : List P3) (x0 : Int) (x1 : Int) (x2 : Int) (γ1 : Nat → Nat) (x : has_2X) : Prop := (x.2) ≤ xs.length ∧ ∀ j, j < (x.2) → xs[j]! ≠ (x0, x1, x2)
def has_2m (A : Option Addr) (c : Nat) (xs : List P3) (x0 : Int) (x1 : Int) (x2 : Int) (γ1 : Nat → Nat) (x : has_2X) : Nat := xs.length - (x.2)
def has_2F (A : Option Addr) (c : Nat) (xs : List P3) (x0 : Int) (x1 : Int) (x2 : Int) (γ1 : Nat → Nat) (w : World) (x : has_2X) : List Asrt := [old w]
abbrev has_2I (A : Option Addr) (c : Nat) (xs : List P3) (x0 : Int) (x1 : Int) (x2 : Int) (γ1 : Nat → Nat) (w : World) (x : has_2X) : Act → World → Prop := Inv (has_2s A c xs x0 x1 x2 γ1) (has_2F A c xs x0 x1 x2 γ1 w) (has_2k A c xs x0 x1 x2 γ1) (has_2m A c xs x0 x1 x2 γ1) x
def has_l13 (A : Option Addr) (c : Nat) (xs : List P3) (x0 : Int) (x1 : Int) (x2 : Int) (γ1 : Nat → Nat) (z2 : Nat → Value) (i : Nat) (B : Nat) (o : Nat) : List Value := [.slice A xs.length c, .agg #[.int .i64 x0, .int .i64 x1, .int .i64 x2], zz, .pointer (some ⟨γ1 0, 0, none⟩), z2 4, .int .i64 ((i + 1 : Nat) : Int), .int .i64 (i : Int), .slice A xs.length c, .int .i64 ((xs.length : Nat) : Int), .bool true, .int .i64 (i : Int), .int .i64 ((i + 1 : Nat) : Int), .slice A xs.length c, .int .i64 (i : Int), .pointer (some ⟨B, o + i * 3, none⟩), .agg #[.int .i64 ((xs[i]!).1), .int .i64 ((xs[i]!).2.1), .int .i64 ((xs[i]!).2.2)]]
def has_l14 (x0 : Int) (x1 : Int) (x2 : Int) : List Value := [.agg #[.int .i64 x0, .int .i64 x1, .int .i64 x2], .bool false]
def has_b15 (A : Option Addr) (c : Nat) (xs : List P3) (x0 : Int) (x1 : Int) (x2 : Int) (γ1 : Nat → Nat) (z2 : Nat → Value) (i : Nat) (B : Nat) (o : Nat) : List Value := (has_l13 A c xs x0 x1 x2 γ1 z2 i B o) ++ ((has_l14 x0 x1 x2))
set_option maxHeartbeats 8000000 in
set_option maxRecDepth 100000 in
theorem has_is {w : World} {A : Option Addr} {c : Nat} {xs : List P3} (h : Rd w (.slice A xs.length c) 3 encT67 xs) (hl : xs.length ≤ 1000) (x0 x1 x2 : Int) : Calls Try.prog 51 #[.slice A xs.length c, .agg #[.int .i64 x0, .int .i64 x1, .int .i64 x2]] w fun e w' => e = .returned (.bool (decide ((x0, x1, x2) ∈ xs))) ∧ Below w.heap.size w w' := by
  refine enter (args := [.slice A xs.length c, .agg #[.int .i64 x0, .int .i64 x1, .int .i64 x2]]) (fn := Try.f51) rfl (c := bdy Try.f51) (by kernel_rfl) ?_
  refine ck 3 [] [] fun γ1 => ⟨⟨kt (bdy Try.f51) [1, 0, 1, 0] [], (has_b2 A c xs x0 x1 x2 γ1), [(γ1 0, 67, (has_c3 x0 x1 x2))]⟩, [], [], by kernel_rfl, .nil, ?_⟩
  refine lp (has_2s A c xs x0 x1 x2 γ1) (has_2F A c xs x0 x1 x2 γ1 w) (has_2k A c xs x0 x1 x2 γ1) (has_2m A c xs x0 x1 x2 γ1) ((fun mm => ((has_b2 A c xs x0 x1 x2 γ1)).getD mm zz, 0)) (kt (bdy Try.f51) [1, 0, 1, 0] []) ⟨Nat.zero_le _, fun j hj => absurd hj (Nat.not_lt_zero j)⟩ rfl ?_
  rintro ⟨z2, i⟩ hok
  obtain ⟨hi, hx⟩ : i ≤ xs.length ∧ ∀ j, j < i → xs[j]! ≠ (x0, x1, x2) := hok
  refine st1 (ktl [] (has_2I A c xs x0 x1 x2 γ1 w (z2, i)) (kt (bdy Try.f51) [1, 0, 1, 0] [])) ((has_b6 A c xs x0 x1 x2 γ1 z2 i)) [(γ1 0, 67, (has_c3 x0 x1 x2))] ?_
  by_cases hin : i < xs.length
  · skip
    obtain ⟨B, o, hAe, hat⟩ := h.at (by omega)
    refine ck 4 [] [(3, .bool true)] fun γ3 => ⟨⟨ktl [1, 0, 0, 0] (has_2I A c xs x0 x1 x2 γ1 w (z2, i)) (kt (bdy Try.f51) [1, 0, 1, 0] []), upv (has_b6 A c xs x0 x1 x2 γ1 z2 i) [(6, .int .i64 (i : Int)), (7, .slice A xs.length c), (8, .int .i64 ((xs.length : Nat) : Int)), (9, .bool true)], [(γ1 0, 67, (has_c3 x0 x1 x2))]⟩, [], [Value.bool (decide (((i : Int) : Int) < ((xs.length : Nat) : Int))) = .bool true], by kernel_rfl, (.cons (cbT (by omega)) .nil), ?_⟩
    by_cases heq : xs[i]! = (x0, x1, x2)
    · skip
      refine dr [] [] .nil ?_
      refine df [0, 1, 4] [(3, 0)] [] [(3, γ1 0)] [] .nil ?_
      refine dixr 2 (n := xs.length) (sz := 3) (j := (i : Int)) hAe i (by omega) ?_
      refine dldr 3 (n := 3) (row := true) [.int .i64 ((xs[i]!).1), .int .i64 ((xs[i]!).2.1), .int .i64 ((xs[i]!).2.2)] (fun W hW => (hat.below (hW.old 0 rfl)).ld (i := i) (by omega) 0 [.int .i64 ((xs[i]!).1), .int .i64 ((xs[i]!).2.1), .int .i64 ((xs[i]!).2.2)] rfl) ?_
      refine deqr 5 (pos := true) (r := true) true (fun W => (eq67 ((xs[i]!).1) ((xs[i]!).2.1) ((xs[i]!).2.2) x0 x1 x2 W).trans (by rw [decide_eq_true (by rw [heq]; exact ⟨rfl, rfl, rfl⟩)])) rfl ?_
      refine de (fs := (ktl [1, 0, 0, 0] (has_2I A c xs x0 x1 x2 γ1 w (z2, i)) (kt (bdy Try.f51) [1, 0, 1, 0] [])).tail) ?_
      refine st0 (fs := (ktl [1, 0, 0, 0] (has_2I A c xs x0 x1 x2 γ1 w (z2, i)) (kt (bdy Try.f51) [1, 0, 1, 0] [])).tail) (upv (has_b6 A c xs x0 x1 x2 γ1 z2 i) [(6, .int .i64 (i : Int)), (7, .slice A xs.length c), (8, .int .i64 ((xs.length : Nat) : Int)), (9, .bool true), (12, .slice A xs.length c), (13, .int .i64 (i : Int)), (14, .pointer (some ⟨B, o + i * 3, none⟩)), (15, .agg #[.int .i64 ((xs[i]!).1), .int .i64 ((xs[i]!).2.1), .int .i64 ((xs[i]!).2.2)]), (16, .agg #[.int .i64 x0, .int .i64 x1, .int .i64 x2]), (17, .bool true)]) [(γ1 0, 67, (has_c3 x0 x1 x2))] ?_
      refine ck 1 [] [] fun γ4 => ⟨⟨ktl [1, 0, 0, 1, 0, 1] (has_2I A c xs x0 x1 x2 γ1 w (z2, i)) (kt (bdy Try.f51) [1, 0, 1, 0] []), upv (has_b6 A c xs x0 x1 x2 γ1 z2 i) [(4, .bool true), (6, .int .i64 (i : Int)), (7, .slice A xs.length c), (8, .int .i64 ((xs.length : Nat) : Int)), (9, .bool true), (12, .slice A xs.length c), (13, .int .i64 (i : Int)), (14, .pointer (some ⟨B, o + i * 3, none⟩)), (15, .agg #[.int .i64 ((xs[i]!).1), .int .i64 ((xs[i]!).2.1), .int .i64 ((xs[i]!).2.2)]), (16, .agg #[.int .i64 x0, .int .i64 x1, .int .i64 x2]), (17, .bool true)], [(γ1 0, 67, (has_c3 x0 x1 x2))]⟩, [], [], by kernel_rfl, .nil, ?_⟩
      refine rt (.bool true) [] [] (fun W hW => ?_)
      rw [decide_eq_true (mem_get hin heq)]
      exact ⟨rfl, (hW.old 0 rfl)⟩
    · skip
      refine dr [] [] .nil ?_
      refine df [0, 1, 4] [(3, 0)] [] [(3, γ1 0)] [] .nil ?_
      refine dixr 2 (n := xs.length) (sz := 3) (j := (i : Int)) hAe i (by omega) ?_
      refine dldr 3 (n := 3) (row := true) [.int .i64 ((xs[i]!).1), .int .i64 ((xs[i]!).2.1), .int .i64 ((xs[i]!).2.2)] (fun W hW => (hat.below (hW.old 0 rfl)).ld (i := i) (by omega) 0 [.int .i64 ((xs[i]!).1), .int .i64 ((xs[i]!).2.1), .int .i64 ((xs[i]!).2.2)] rfl) ?_
      refine deqr 5 (pos := true) (r := false) false (fun W => (eq67 ((xs[i]!).1) ((xs[i]!).2.1) ((xs[i]!).2.2) x0 x1 x2 W).trans (by rw [decide_eq_false (fun h9 => heq (Prod.ext h9.1 (Prod.ext h9.2.1 h9.2.2)))])) rfl ?_
      refine de (fs := (ktl [1, 0, 0, 0] (has_2I A c xs x0 x1 x2 γ1 w (z2, i)) (kt (bdy Try.f51) [1, 0, 1, 0] [])).tail) ?_
      refine st0 (fs := (ktl [1, 0, 0, 0] (has_2I A c xs x0 x1 x2 γ1 w (z2, i)) (kt (bdy Try.f51) [1, 0, 1, 0] [])).tail) (upv (has_b6 A c xs x0 x1 x2 γ1 z2 i) [(6, .int .i64 (i : Int)), (7, .slice A xs.length c), (8, .int .i64 ((xs.length : Nat) : Int)), (9, .bool true), (12, .slice A xs.length c), (13, .int .i64 (i : Int)), (14, .pointer (some ⟨B, o + i * 3, none⟩)), (15, .agg #[.int .i64 ((xs[i]!).1), .int .i64 ((xs[i]!).2.1), .int .i64 ((xs[i]!).2.2)]), (16, .agg #[.int .i64 x0, .int .i64 x1, .int .i64 x2]), (17, .bool false)]) [(γ1 0, 67, (has_c3 x0 x1 x2))] ?_
      refine ck 3 [] [(1, .int .i64 ((i + 1 : Nat) : Int))] fun γ5 => ⟨⟨ktp (has_2I A c xs x0 x1 x2 γ1 w (z2, i)) (kt (bdy Try.f51) [1, 0, 1, 0] []), (has_b15 A c xs x0 x1 x2 γ1 z2 i B o), [(γ1 0, 67, (has_c3 x0 x1 x2))]⟩, [], [Value.int .i64 (IntKind.wrap .i64 ((i : Int) + 1)) = .int .i64 ((i + 1 : Nat) : Int)], by kernel_rfl, (.cons (congrArg (Value.int .i64) (by rw [IntKind.wrap_i64]; omega)) .nil), ?_⟩
      exact nx (st := has_2s A c xs x0 x1 x2 γ1) (F' := has_2F A c xs x0 x1 x2 γ1 w) (ok := has_2k A c xs x0 x1 x2 γ1) (μ := has_2m A c xs x0 x1 x2 γ1) (x := (z2, i)) (fun mm => ((has_b15 A c xs x0 x1 x2 γ1 z2 i B o)).getD mm zz, (i + 1)) (show (i + 1) ≤ xs.length ∧ ∀ j, j < (i + 1) → xs[j]! ≠ (x0, x1, x2) from ⟨by omega, fun j hj => by rcases Nat.lt_succ_iff_lt_or_eq.1 hj with h9 | h9; exact hx j h9; subst h9; exact heq⟩) (by show _ < _; simp only [has_2m]; omega) 0 0 rfl
  · skip
    refine ck 5 [] [(3, .bool false)] fun γ6 => ⟨⟨kt (bdy Try.f51) [1, 1, 1] [], upv (has_b6 A c xs x0 x1 x2 γ1 z2 i) [(4, .bool false), (6, .int .i64 (i : Int)), (7, .slice A xs.length c), (8, .int .i64 ((xs.length : Nat) : Int)), (9, .bool false)], [(γ1 0, 67, (has_c3 x0 x1 x2))]⟩, [], [Value.bool (decide (((i : Int) : Int) < ((xs.length : Nat) : Int))) = .bool false], by kernel_rfl, (.cons (cbF (by omega)) .nil), ?_⟩
    refine rt (.bool false) [] [] (fun W hW => ?_)
    rw [decide_eq_false (not_mem fun j hj => hx j (by omega))]
    exact ⟨rfl, (hW.old 0 rfl)⟩
def ind_l0 (A : Option Addr) (c : Nat) (xs : List P3) (x0 : Int) (x1 : Int) (x2 : Int) (γ1 : Nat → Nat) : List Value := [.slice A xs.length c, .agg #[.int .i64 x0, .int .i64 x1, .int .i64 x2], zz, .pointer (some ⟨γ1 0, 0, none⟩), .int .i64 0, zz, .slice A xs.length c, .int .i64 ((xs.length : Nat) : Int), .int .i64 0, zz, zz, zz, zz, zz, zz, zz]
def ind_l1 : List Value := [zz, zz, zz]
def ind_b2 (A : Option Addr) (c : Nat) (xs : List P3) (x0 : Int) (x1 : Int) (x2 : Int) (γ1 : Nat → Nat) : List Value := (ind_l0 A c xs x0 x1 x2 γ1) ++ (ind_l1)
def ind_c3 (x0 : Int) (x1 : Int) (x2 : Int) : List Value := [.int .i64 x0, .int .i64 x1, .int .i64 x2]
def ind_l4 (A : Option Addr) (c : Nat) (xs : List P3) (x0 : Int) (x1 : Int) (x2 : Int) (γ1 : Nat → Nat) (z2 : Nat → Value) (i : Nat) : List Value := [.slice A xs.length c, .agg #[.int .i64 x0, .int .i64 x1, .int .i64 x2], zz, .pointer (some ⟨γ1 0, 0, none⟩), z2 4, z2 5, .slice A xs.length c, .int .i64 ((xs.length : Nat) : Int), .int .i64 (i : Int), z2 9, z2 10, z2 11, z2 12, z2 13, z2 14, z2 15]
def ind_l5 (z2 : Nat → Value) : List Value := [z2 16, z2 17, z2 18]
def ind_b6 (A : Option Addr) (c : Nat) (xs : List P3) (x0 : Int) (x1 : Int) (x2 : Int) (γ1 : Nat → Nat) (z2 : Nat → Value) (i : Nat) : List Value := (ind_l4 A c xs x0 x1 x2 γ1 z2 i) ++ ((ind_l5 z2))
abbrev ind_2X := (Nat → Value) × Nat
def ind_2s (A : Option Addr) (c : Nat) (xs : List P3) (x0 : Int) (x1 : Int) (x2 : Int) (γ1 : Nat → Nat) (x : ind_2X) : List Value × List Blk := ((ind_b6 A c xs x0 x1 x2 γ1 (x.1) (x.2)), [(γ1 0, 67, (ind_c3 x0 x1 x2))])
def ind_2k (A : Option Addr) (c : Nat) (xs : List P3) (x0 : Int) (x1 : Int) (x2 : Int) (γ1 : Nat → Nat) (x : ind_2X) : Prop := (x.2) ≤ xs.length ∧ idxP (x0, x1, x2) xs 0 = idxP (x0, x1, x2) (xs.drop (x.2)) (x.2)
def ind_2m (A : Option Addr) (c : Nat) (xs : List P3) (x0 : Int) (x1 : Int) (x2 : Int) (γ1 : Nat → Nat) (x : ind_2X) : Nat := xs.length - (x.2)
def ind_2F (A : Option Addr) (c : Nat) (xs : List P3) (x0 : Int) (x1 : Int) (x2 : Int) (γ1 : Nat → Nat) (w : World) (x : ind_2X) : List Asrt := [old w]
abbrev ind_2I (A : Option Addr) (c : Nat) (xs : List P3) (x0 : Int) (x1 : Int) (x2 : Int) (γ1 : Nat → Nat) (w : World) (x : ind_2X) : Act → World → Prop := Inv (ind_2s A c xs x0 x1 x2 γ1) (ind_2F A c xs x0 x1 x2 γ1 w) (ind_2k A c xs x0 x1 x2 γ1) (ind_2m A c xs x0 x1 x2 γ1) x
set_option maxHeartbeats 8000000 in
set_option maxRecDepth 100000 in
theorem index_is {w : World} {A : Option Addr} {c : Nat} {xs : List P3} (h : Rd w (.slice A xs.length c) 3 encT67 xs) (hl : xs.length ≤ 1000) (x0 x1 x2 : Int) : Calls Try.prog 76 #[.slice A xs.length c, .agg #[.int .i64 x0, .int .i64 x1, .int .i64 x2]] w fun e w' => e = .returned (.int .i64 (idxP (x0, x1, x2) xs 0)) ∧ Below w.heap.size w w' := by
  refine enter (args := [.slice A xs.length c, .agg #[.int .i64 x0, .int .i64 x1, .int .i64 x2]]) (fn := Try.f76) rfl (c := bdy Try.f76) (by kernel_rfl) ?_
  refine ck 5 [] [] fun γ1 => ⟨⟨kt (bdy Try.f76) [1, 0, 1, 0] [], (ind_b2 A c xs x0 x1 x2 γ1), [(γ1 0, 67, (ind_c3 x0 x1 x2))]⟩, [], [], by kernel_rfl, .nil, ?_⟩
  refine lp (ind_2s A c xs x0 x1 x2 γ1) (ind_2F A c xs x0 x1 x2 γ1 w) (ind_2k A c xs x0 x1 x2 γ1) (ind_2m A c xs x0 x1 x2 γ1) ((fun mm => ((ind_b2 A c xs x0 x1 x2 γ1)).getD mm zz, 0)) (kt (bdy Try.f76) [1, 0, 1, 0] []) ⟨Nat.zero_le _, rfl⟩ rfl ?_
  rintro ⟨z2, i⟩ hok
  obtain ⟨hi, hx⟩ : i ≤ xs.length ∧ idxP (x0, x1, x2) xs 0 = idxP (x0, x1, x2) (xs.drop i) i := hok
  refine st1 (ktl [] (ind_2I A c xs x0 x1 x2 γ1 w (z2, i)) (kt (bdy Try.f76) [1, 0, 1, 0] [])) ((ind_b6 A c xs x0 x1 x2 γ1 z2 i)) [(γ1 0, 67, (ind_c3 x0 x1 x2))] ?_
  by_cases hin : i < xs.length
  · skip
    obtain ⟨B, o, hAe, hat⟩ := h.at (by omega)
    refine ck 3 [] [(0, .bool true)] fun γ3 => ⟨⟨ktl [1, 1, 0, 0, 1, 0] (ind_2I A c xs x0 x1 x2 γ1 w (z2, i)) (kt (bdy Try.f76) [1, 0, 1, 0] []), upv (ind_b6 A c xs x0 x1 x2 γ1 z2 i) [(5, .int .i64 (i : Int)), (9, .bool true), (10, .int .i64 (i : Int))], [(γ1 0, 67, (ind_c3 x0 x1 x2))]⟩, [], [Value.bool (decide (((i : Int) : Int) < ((xs.length : Nat) : Int))) = .bool true], by kernel_rfl, (.cons (cbT (by omega)) .nil), ?_⟩
    by_cases heq : (x0, x1, x2) = xs[i]!
    · skip
      refine dr [] [] .nil ?_
      refine df [0, 1, 2] [(3, 0)] [] [(3, γ1 0)] [] .nil ?_
      refine dixr 3 (n := xs.length) (sz := 3) (j := (i : Int)) hAe i (by omega) ?_
      refine dldr 4 (n := 3) (row := true) [.int .i64 ((xs[i]!).1), .int .i64 ((xs[i]!).2.1), .int .i64 ((xs[i]!).2.2)] (fun W hW => (hat.below (hW.old 0 rfl)).ld (i := i) (by omega) 0 [.int .i64 ((xs[i]!).1), .int .i64 ((xs[i]!).2.1), .int .i64 ((xs[i]!).2.2)] rfl) ?_
      refine deqr 5 (pos := true) (r := true) true (fun W => (eq67 x0 x1 x2 ((xs[i]!).1) ((xs[i]!).2.1) ((xs[i]!).2.2) W).trans (by rw [decide_eq_true (by rw [← heq]; exact ⟨rfl, rfl, rfl⟩)])) rfl ?_
      refine de (fs := (ktl [1, 1, 0, 0, 1, 0] (ind_2I A c xs x0 x1 x2 γ1 w (z2, i)) (kt (bdy Try.f76) [1, 0, 1, 0] [])).tail) ?_
      refine st0 (fs := (ktl [1, 1, 0, 0, 1, 0] (ind_2I A c xs x0 x1 x2 γ1 w (z2, i)) (kt (bdy Try.f76) [1, 0, 1, 0] [])).tail) (upv (ind_b6 A c xs x0 x1 x2 γ1 z2 i) [(5, .int .i64 (i : Int)), (9, .bool true), (10, .int .i64 (i : Int)), (11, .agg #[.int .i64 x0, .int .i64 x1, .int .i64 x2]), (12, .slice A xs.length c), (13, .int .i64 (i : Int)), (14, .pointer (some ⟨B, o + i * 3, none⟩)), (15, .agg #[.int .i64 ((xs[i]!).1), .int .i64 ((xs[i]!).2.1), .int .i64 ((xs[i]!).2.2)]), (16, .bool true)]) [(γ1 0, 67, (ind_c3 x0 x1 x2))] ?_
      refine ck 2 [] [] fun γ4 => ⟨⟨ktl [1, 1, 0, 0, 1, 1, 0, 1] (ind_2I A c xs x0 x1 x2 γ1 w (z2, i)) (kt (bdy Try.f76) [1, 0, 1, 0] []), upv (ind_b6 A c xs x0 x1 x2 γ1 z2 i) [(4, .int .i64 (i : Int)), (5, .int .i64 (i : Int)), (9, .bool true), (10, .int .i64 (i : Int)), (11, .agg #[.int .i64 x0, .int .i64 x1, .int .i64 x2]), (12, .slice A xs.length c), (13, .int .i64 (i : Int)), (14, .pointer (some ⟨B, o + i * 3, none⟩)), (15, .agg #[.int .i64 ((xs[i]!).1), .int .i64 ((xs[i]!).2.1), .int .i64 ((xs[i]!).2.2)]), (16, .bool true), (17, .int .i64 (i : Int))], [(γ1 0, 67, (ind_c3 x0 x1 x2))]⟩, [], [], by kernel_rfl, .nil, ?_⟩
      refine rt (.int .i64 (i : Int)) [] [] (fun W hW => ?_)
      refine ⟨?_, (hW.old 0 rfl)⟩
      rw [hx, idxP_drop hin, if_pos heq]
    · skip
      refine dr [] [] .nil ?_
      refine df [0, 1, 2] [(3, 0)] [] [(3, γ1 0)] [] .nil ?_
      refine dixr 3 (n := xs.length) (sz := 3) (j := (i : Int)) hAe i (by omega) ?_
      refine dldr 4 (n := 3) (row := true) [.int .i64 ((xs[i]!).1), .int .i64 ((xs[i]!).2.1), .int .i64 ((xs[i]!).2.2)] (fun W hW => (hat.below (hW.old 0 rfl)).ld (i := i) (by omega) 0 [.int .i64 ((xs[i]!).1), .int .i64 ((xs[i]!).2.1), .int .i64 ((xs[i]!).2.2)] rfl) ?_
      refine deqr 5 (pos := true) (r := false) false (fun W => (eq67 x0 x1 x2 ((xs[i]!).1) ((xs[i]!).2.1) ((xs[i]!).2.2) W).trans (by rw [decide_eq_false (fun h9 => heq (Prod.ext h9.1 (Prod.ext h9.2.1 h9.2.2)))])) rfl ?_
      refine de (fs := (ktl [1, 1, 0, 0, 1, 0] (ind_2I A c xs x0 x1 x2 γ1 w (z2, i)) (kt (bdy Try.f76) [1, 0, 1, 0] [])).tail) ?_
      refine st0 (fs := (ktl [1, 1, 0, 0, 1, 0] (ind_2I A c xs x0 x1 x2 γ1 w (z2, i)) (kt (bdy Try.f76) [1, 0, 1, 0] [])).tail) (upv (ind_b6 A c xs x0 x1 x2 γ1 z2 i) [(5, .int .i64 (i : Int)), (9, .bool true), (10, .int .i64 (i : Int)), (11, .agg #[.int .i64 x0, .int .i64 x1, .int .i64 x2]), (12, .slice A xs.length c), (13, .int .i64 (i : Int)), (14, .pointer (some ⟨B, o + i * 3, none⟩)), (15, .agg #[.int .i64 ((xs[i]!).1), .int .i64 ((xs[i]!).2.1), .int .i64 ((xs[i]!).2.2)]), (16, .bool false)]) [(γ1 0, 67, (ind_c3 x0 x1 x2))] ?_
      refine ck 2 [] [(0, .int .i64 ((i + 1 : Nat) : Int))] fun γ5 => ⟨⟨ktp (ind_2I A c xs x0 x1 x2 γ1 w (z2, i)) (kt (bdy Try.f76) [1, 0, 1, 0] []), upv (ind_b6 A c xs x0 x1 x2 γ1 z2 i) [(5, .int .i64 (i : Int)), (8, .int .i64 ((i + 1 : Nat) : Int)), (9, .bool true), (10, .int .i64 (i : Int)), (11, .agg #[.int .i64 x0, .int .i64 x1, .int .i64 x2]), (12, .slice A xs.length c), (13, .int .i64 (i : Int)), (14, .pointer (some ⟨B, o + i * 3, none⟩)), (15, .agg #[.int .i64 ((xs[i]!).1), .int .i64 ((xs[i]!).2.1), .int .i64 ((xs[i]!).2.2)]), (16, .bool false), (18, .int .i64 ((i + 1 : Nat) : Int))], [(γ1 0, 67, (ind_c3 x0 x1 x2))]⟩, [], [Value.int .i64 (IntKind.wrap .i64 ((i : Int) + 1)) = .int .i64 ((i + 1 : Nat) : Int)], by kernel_rfl, (.cons (congrArg (Value.int .i64) (by rw [IntKind.wrap_i64]; omega)) .nil), ?_⟩
      exact nx (st := ind_2s A c xs x0 x1 x2 γ1) (F' := ind_2F A c xs x0 x1 x2 γ1 w) (ok := ind_2k A c xs x0 x1 x2 γ1) (μ := ind_2m A c xs x0 x1 x2 γ1) (x := (z2, i)) (fun mm => (upv (ind_b6 A c xs x0 x1 x2 γ1 z2 i) [(5, .int .i64 (i : Int)), (8, .int .i64 ((i + 1 : Nat) : Int)), (9, .bool true), (10, .int .i64 (i : Int)), (11, .agg #[.int .i64 x0, .int .i64 x1, .int .i64 x2]), (12, .slice A xs.length c), (13, .int .i64 (i : Int)), (14, .pointer (some ⟨B, o + i * 3, none⟩)), (15, .agg #[.int .i64 ((xs[i]!).1), .int .i64 ((xs[i]!).2.1), .int .i64 ((xs[i]!).2.2)]), (16, .bool false), (18, .int .i64 ((i + 1 : Nat) : Int))]).getD mm zz, (i + 1)) (show (i + 1) ≤ xs.length ∧ idxP (x0, x1, x2) xs 0 = idxP (x0, x1, x2) (xs.drop (i + 1)) (i + 1) from ⟨by omega, by rw [hx, idxP_drop hin, if_neg heq]⟩) (by show _ < _; simp only [ind_2m]; omega) 0 0 rfl
  · skip
    refine ck 2 [] [(0, .bool false)] fun γ6 => ⟨⟨kt (bdy Try.f76) [1, 1, 1] [], upv (ind_b6 A c xs x0 x1 x2 γ1 z2 i) [(4, .int .i64 (-1)), (9, .bool false)], [(γ1 0, 67, (ind_c3 x0 x1 x2))]⟩, [], [Value.bool (decide (((i : Int) : Int) < ((xs.length : Nat) : Int))) = .bool false], by kernel_rfl, (.cons (cbF (by omega)) .nil), ?_⟩
    refine rt (.int .i64 (-1)) [] [] (fun W hW => ?_)
    refine ⟨?_, (hW.old 0 rfl)⟩
    rw [hx, List.drop_eq_nil_of_le (by omega)]
    rfl
def cts0_l0 (A : Option Addr) (c : Nat) (xs : List P3) (x0 : Int) (x1 : Int) (x2 : Int) (γ1 : Nat → Nat) : List Value := [.slice A xs.length c, .agg #[.int .i64 x0, .int .i64 x1, .int .i64 x2], zz, .pointer (some ⟨γ1 0, 0, none⟩), .bool false, .slice A xs.length c, .agg #[.int .i64 x0, .int .i64 x1, .int .i64 x2], zz, zz]
def cts0_c1 (x0 : Int) (x1 : Int) (x2 : Int) : List Value := [.int .i64 x0, .int .i64 x1, .int .i64 x2]
def cts1_l0 (A : Option Addr) (c : Nat) (xs : List P3) (x0 : Int) (x1 : Int) (x2 : Int) (γ1 : Nat → Nat) : List Value := [.slice A xs.length c, .agg #[.int .i64 x0, .int .i64 x1, .int .i64 x2], zz, .pointer (some ⟨γ1 0, 0, none⟩), .bool false, .slice A xs.length c, .agg #[.int .i64 x0, .int .i64 x1, .int .i64 x2], zz, zz]
def cts1_c1 (x0 : Int) (x1 : Int) (x2 : Int) : List Value := [.int .i64 x0, .int .i64 x1, .int .i64 x2]
set_option maxHeartbeats 8000000 in
set_option maxRecDepth 100000 in
theorem contains_is {w : World} {A : Option Addr} {c : Nat} {xs : List P3} (h : Rd w (.slice A xs.length c) 3 encT67 xs) (hl : xs.length ≤ 1000) (x0 x1 x2 : Int) : Calls Try.prog 65 #[.slice A xs.length c, .agg #[.int .i64 x0, .int .i64 x1, .int .i64 x2]] w fun e w' => e = .returned (.bool (decide ((x0, x1, x2) ∈ xs))) ∧ Below w.heap.size w w' := by
  by_cases hm : (x0, x1, x2) ∈ xs
  · skip
    have hge : 0 ≤ idxP (x0, x1, x2) xs 0 := (idxP_mem _ _ _).2 hm
    refine enter (args := [.slice A xs.length c, .agg #[.int .i64 x0, .int .i64 x1, .int .i64 x2]]) (fn := Try.f65) rfl (c := bdy Try.f65) (by kernel_rfl) ?_
    refine ck 4 [(3, 0)] [] fun γ1 => ⟨⟨kt (bdy Try.f65) [1, 0, 2] [], (cts0_l0 A c xs x0 x1 x2 γ1), [(γ1 0, 67, (cts0_c1 x0 x1 x2))]⟩, [(3, γ1 0)], [], by kernel_rfl, .nil, ?_⟩
    refine cp (fun W hW => index_is (h.below (hW.old 0 rfl)) hl x0 x1 x2) ?_
    refine ck 2 [] [(0, .bool true)] fun γ2 => ⟨⟨kt (bdy Try.f65) [1, 1] [], upv (cts0_l0 A c xs x0 x1 x2 γ1) [(4, .bool true), (7, .int .i64 (idxP (x0, x1, x2) xs 0)), (8, .bool true)], [(γ1 0, 67, (cts0_c1 x0 x1 x2))]⟩, [], [Value.bool (decide (((idxP (x0, x1, x2) xs 0) : Int) ≥ 0)) = .bool true], by kernel_rfl, (.cons (cbT hge) .nil), ?_⟩
    refine rt (.bool true) [] [] (fun W hW => ?_)
    rw [decide_eq_true hm]
    exact ⟨rfl, (hW.old 0 rfl)⟩
  · skip
    have hge : ¬ 0 ≤ idxP (x0, x1, x2) xs 0 := fun h9 => hm ((idxP_mem _ _ _).1 h9)
    refine enter (args := [.slice A xs.length c, .agg #[.int .i64 x0, .int .i64 x1, .int .i64 x2]]) (fn := Try.f65) rfl (c := bdy Try.f65) (by kernel_rfl) ?_
    refine ck 4 [(3, 0)] [] fun γ1 => ⟨⟨kt (bdy Try.f65) [1, 0, 2] [], (cts1_l0 A c xs x0 x1 x2 γ1), [(γ1 0, 67, (cts1_c1 x0 x1 x2))]⟩, [(3, γ1 0)], [], by kernel_rfl, .nil, ?_⟩
    refine cp (fun W hW => index_is (h.below (hW.old 0 rfl)) hl x0 x1 x2) ?_
    refine ck 2 [] [(0, .bool false)] fun γ2 => ⟨⟨kt (bdy Try.f65) [1, 1] [], upv (cts1_l0 A c xs x0 x1 x2 γ1) [(7, .int .i64 (idxP (x0, x1, x2) xs 0)), (8, .bool false)], [(γ1 0, 67, (cts1_c1 x0 x1 x2))]⟩, [], [Value.bool (decide (((idxP (x0, x1, x2) xs 0) : Int) ≥ 0)) = .bool false], by kernel_rfl, (.cons (cbF hge) .nil), ?_⟩
    refine rt (.bool false) [] [] (fun W hW => ?_)
    rw [decide_eq_false hm]
    exact ⟨rfl, (hW.old 0 rfl)⟩
theorem has_b {x0 x1 x2 : Int} {b : Bool} {w : World} {A : Option Addr} {c : Nat} {xs : List P3} (hb : decide ((x0, x1, x2) ∈ xs) = b) (h : Rd w (.slice A xs.length c) 3 encT67 xs) (hl : xs.length ≤ 1000) : Calls Try.prog 51 #[.slice A xs.length c, .agg #[.int .i64 x0, .int .i64 x1, .int .i64 x2]] w fun e w' => e = .returned (.bool b) ∧ Below w.heap.size w w' := by
  subst hb
  exact has_is h hl x0 x1 x2
theorem contains_b {x0 x1 x2 : Int} {b : Bool} {w : World} {A : Option Addr} {c : Nat} {xs : List P3} (hb : decide ((x0, x1, x2) ∈ xs) = b) (h : Rd w (.slice A xs.length c) 3 encT67 xs) (hl : xs.length ≤ 1000) : Calls Try.prog 65 #[.slice A xs.length c, .agg #[.int .i64 x0, .int .i64 x1, .int .i64 x2]] w fun e w' => e = .returned (.bool b) ∧ Below w.heap.size w w' := by
  subst hb
  exact contains_is h hl x0 x1 x2
end Go.Proofs.Ytglkhjjhjhhonaa.Sr
