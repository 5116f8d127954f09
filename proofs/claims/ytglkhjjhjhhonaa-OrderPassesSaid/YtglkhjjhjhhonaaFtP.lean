/- Neighbours that are alike, made one: plainly, and slices.Compact. No condition beside those that each theorem names. -/
import Derived.Test.YtglkhjjhjhhonaaFtK
import Derived.Test.YtglkhjjhjhhonaaMachC
namespace Go.Proofs.Ytglkhjjhjhhonaa.Sr
open Go.RowKit Go.Proofs.YtglkhjjhjhhonaaM.Mach
set_option linter.unusedVariables false
set_option linter.unusedSimpArgs false
/-- What slices.Compact leaves: the places, each once, and zeros. -/
def cpd (ks : List P3) : List P3 := ddup ks ++ List.replicate (ks.length - (ddup ks).length) (0, 0, 0)
theorem cpd_id {ks : List P3} (h : ddup ks = ks) : cpd ks = ks := by
  unfold cpd
  rw [h, Nat.sub_self]
  simp
theorem take_one {ks : List P3} {p : Nat} (h : p < ks.length) : ks.take (p + 1) = ks.take p ++ [ks[p]!] := by
  rw [List.take_succ_eq_append_getElem h, getElem!_pos ks p h]
theorem take_two {ks : List P3} {p : Nat} (h : p + 1 < ks.length) : ks.take (p + 2) = ks.take p ++ [ks[p]!, ks[p + 1]!] := by
  rw [show p + 2 = (p + 1) + 1 from rfl, take_one h, take_one (by omega), List.append_assoc]
  rfl
theorem ddup_step {ks : List P3} {p : Nat} (h : p + 1 < ks.length) : ddup (ks.take (p + 2)) = if ks[p]! = ks[p + 1]! then ddup (ks.take (p + 1)) else ddup (ks.take (p + 1)) ++ [ks[p + 1]!] := by
  rw [take_two h, take_one (by omega), ddup_snoc]
theorem co_start (ks : List P3) : ddup (ks.take 1) = ks.take 1 := by
  cases ks with
  | nil => rfl
  | cons x l => rfl
theorem co_step {ks : List P3} {p : Nat} (h0 : ddup (ks.take (p + 1)) = ks.take (p + 1)) (h : p + 1 < ks.length) (hne : ¬ ks[p + 1]! = ks[p]!) : ddup (ks.take (p + 1 + 1)) = ks.take (p + 1 + 1) := by
  have h3 := ddup_step h
  rw [if_neg (fun e => hne e.symm), h0] at h3
  rw [take_one h]
  rw [take_one h] at h3
  exact h3
theorem co_end {ks : List P3} {k : Nat} (h0 : ddup (ks.take k) = ks.take k) (h : ks.length ≤ k) : ddup ks = ks := by
  rwa [List.take_of_length_le h] at h0
structure CI (ks cur : List P3) (k1 m k : Nat) : Prop where
  len : k = (ddup (ks.take (k1 + m))).length
  lt : k < k1 + m
  le : k1 + m ≤ ks.length
  cur : cur = ddup (ks.take (k1 + m)) ++ ks.drop k
theorem ci_start {ks : List P3} {p : Nat} (h0 : ddup (ks.take (p + 1)) = ks.take (p + 1)) (h2 : p + 1 < ks.length) (he : ks[p + 1]! = ks[p]!) : CI ks ks (p + 1) 1 (p + 1) := by
  have h3 := ddup_step h2
  rw [if_pos he.symm, h0] at h3
  refine ⟨?_, by omega, by omega, ?_⟩
  · show p + 1 = (ddup (ks.take (p + 2))).length
    rw [h3, List.length_take]
    omega
  · show ks = ddup (ks.take (p + 2)) ++ ks.drop (p + 1)
    rw [h3, List.take_append_drop]
theorem CI.clen {ks cur : List P3} {k1 m k : Nat} (h : CI ks cur k1 m k) : cur.length = ks.length := by
  have h1 := h.len
  have h2 := h.lt
  have h3 := h.le
  rw [h.cur, List.length_append, List.length_drop]
  omega
theorem CI.get {ks cur : List P3} {k1 m k i : Nat} (h : CI ks cur k1 m k) (hi : k ≤ i) (hl : i < ks.length) : cur[i]! = ks[i]! := by
  have h1 := h.len
  have h4 : i < cur.length := by rw [h.clen]; exact hl
  have h5 : cur[i]? = ks[i]? := by
    rw [h.cur, List.getElem?_append_right (by omega), List.getElem?_drop]
    congr 1
    omega
  rw [getElem!_pos cur i h4, getElem!_pos ks i hl]
  rw [List.getElem?_eq_getElem h4, List.getElem?_eq_getElem hl] at h5
  exact Option.some.inj h5
theorem CI.dget {ks cur : List P3} {k1 m k i : Nat} (h : CI ks cur k1 m k) (hi : k ≤ k1 + i) (hl : k1 + i < ks.length) : (cur.drop k1)[i]! = ks[k1 + i]! := by
  rw [← h.get hi hl]
  have h6 := h.clen
  rw [getElem!_pos cur (k1 + i) (by omega), getElem!_pos (cur.drop k1) i (by rw [List.length_drop]; omega), List.getElem_drop]
theorem CI.step {ks cur : List P3} {k1 m k : Nat} (h : CI ks cur k1 (m + 1) k) (hl : k1 + (m + 1) < ks.length) : (cur.drop k1)[m + 1]! = ks[k1 + (m + 1)]! ∧ (cur.drop k1)[m]! = ks[k1 + m]! := by
  have h2 := h.lt
  exact ⟨h.dget (by omega) hl, h.dget (by omega) (by omega)⟩
theorem CI.eq {ks cur : List P3} {k1 m k : Nat} (h : CI ks cur k1 (m + 1) k) (hl : k1 + (m + 1) < ks.length) (he : (cur.drop k1)[m + 1]! = (cur.drop k1)[m]!) : CI ks cur k1 (m + 1 + 1) k := by
  have h0 := h.step hl
  rw [h0.1, h0.2] at he
  have h3 : ddup (ks.take (k1 + (m + 1 + 1))) = _ := ddup_step (ks := ks) (p := k1 + m) hl
  rw [if_pos (show ks[k1 + m]! = ks[k1 + m + 1]! from he.symm)] at h3
  refine ⟨h3 ▸ h.len, by have := h.lt; omega, by omega, ?_⟩
  rw [h3]
  exact h.cur
theorem CI.ne {ks cur : List P3} {k1 m k : Nat} (h : CI ks cur k1 (m + 1) k) (hl : k1 + (m + 1) < ks.length) (hne : ¬ (cur.drop k1)[m + 1]! = (cur.drop k1)[m]!) : CI ks (cur.set k (cur.drop k1)[m + 1]!) k1 (m + 1 + 1) (k + 1) := by
  have h0 := h.step hl
  rw [h0.1, h0.2] at hne
  have h3 : ddup (ks.take (k1 + (m + 1 + 1))) = _ := ddup_step (ks := ks) (p := k1 + m) hl
  rw [if_neg (show ¬ ks[k1 + m]! = ks[k1 + m + 1]! from fun e => hne e.symm)] at h3
  have h4 : k = (ddup (ks.take (k1 + m + 1))).length := h.len
  have h5 := h.lt
  refine ⟨?_, by omega, by omega, ?_⟩
  · rw [h3, List.length_append, ← h4]
    rfl
  · rw [h3, h0.1]
    have h6 : cur = ddup (ks.take (k1 + m + 1)) ++ ks.drop k := h.cur
    have h7 : ks.drop k = ks[k]! :: ks.drop (k + 1) := by
      rw [List.drop_eq_getElem_cons (by omega : k < ks.length), getElem!_pos ks k (by omega)]
    rw [h6, h7, List.append_assoc]
    generalize ddup (ks.take (k1 + m + 1)) = D at h4
    subst h4
    have h8 : k1 + (m + 1) = k1 + m + 1 := rfl
    rw [h8]
    simp
theorem CI.fin {ks cur : List P3} {k1 m k : Nat} (h : CI ks cur k1 m k) (he : ks.length ≤ k1 + m) : k = (ddup ks).length ∧ k < ks.length ∧ cur.take k ++ List.replicate (ks.length - k) (0, 0, 0) = cpd ks := by
  have e : k1 + m = ks.length := Nat.le_antisymm h.le he
  have h1 := h.len
  have h2 := h.cur
  rw [List.take_of_length_le he] at h1 h2
  refine ⟨h1, by have := h.lt; omega, ?_⟩
  rw [h2]
  unfold cpd
  rw [← h1]
  congr 1
  rw [h1]
  exact List.take_left
theorem ddup_short {ks : List P3} (h : ks.length < 2) : ddup ks = ks := by
  match ks, h with
  | [], _ => rfl
  | [x], _ => rfl
theorem zeros_cell {α : Type} {enc : α → List Value} (h : ∀ x, ∀ u ∈ enc x, cellV u = true) (l : List α) : (l.flatMap enc).all cellV = true := by
  rw [List.all_eq_true]
  intro u hu
  obtain ⟨x, _, h2⟩ := List.mem_flatMap.1 hu
  exact h x u h2
def cq_l0 (A : Option Addr) (n : Nat) (c : Nat) : List Value := [.slice A n c, zz, .slice none 0 0, zz, zz, zz, zz, zz, zz, zz, zz, zz, zz, zz, zz, zz]
def cq_l1 : List Value := [zz, zz, zz, zz, zz, zz, zz, zz, zz, zz, zz, zz, zz, zz, zz, zz]
def cq_l2 : List Value := [zz, zz, zz, zz, zz, zz, zz, zz, zz, zz, zz, zz, zz]
def cq_b3 (A : Option Addr) (n : Nat) (c : Nat) : List Value := (cq_l0 A n c) ++ (cq_l1 ++ (cq_l1 ++ (cq_l2)))
def cq_l4 (A : Option Addr) (n : Nat) (c : Nat) (z4 : Nat → Value) (p : Nat) : List Value := [.slice A n c, zz, z4 2, .int .i64 ((p + 1 : Nat) : Int), z4 4, z4 5, .slice A n c, .int .i64 ((n : Nat) : Int), .bool false, zz, z4 10, z4 11, z4 12, z4 13, z4 14, z4 15]
def cq_l5 (z4 : Nat → Value) : List Value := [z4 16, z4 17, z4 18, z4 19, z4 20, z4 21, z4 22, z4 23, z4 24, z4 25, z4 26, z4 27, z4 28, z4 29, z4 30, z4 31]
def cq_l6 (z4 : Nat → Value) : List Value := [z4 32, z4 33, z4 34, z4 35, z4 36, z4 37, z4 38, z4 39, z4 40, z4 41, z4 42, z4 43, z4 44, z4 45, z4 46, z4 47]
def cq_l7 (z4 : Nat → Value) : List Value := [z4 48, z4 49, z4 50, z4 51, z4 52, z4 53, z4 54, z4 55, z4 56, z4 57, z4 58, z4 59, zz]
def cq_b8 (A : Option Addr) (n : Nat) (c : Nat) (z4 : Nat → Value) (p : Nat) : List Value := (cq_l4 A n c z4 p) ++ ((cq_l5 z4) ++ ((cq_l6 z4) ++ ((cq_l7 z4))))
abbrev cq_4X := (Nat → Value) × Nat
def cq_4s (A : Option Addr) (n : Nat) (c : Nat) (ks0 : List P3) (x : cq_4X) : List Value × List Blk := ((cq_b8 A n c (x.1) (x.2)), [])
def cq_4k (A : Option Addr) (n : Nat) (c : Nat) (ks0 : List P3) (x : cq_4X) : Prop := ddup (ks0.take ((x.2) + 1)) = ks0.take ((x.2) + 1) ∧ (x.2) + 1 ≤ n
def cq_4m (A : Option Addr) (n : Nat) (c : Nat) (ks0 : List P3) (x : cq_4X) : Nat := n - (x.2)
def cq_4F (A : Option Addr) (n : Nat) (c : Nat) (ks0 : List P3) (w : World) (x : cq_4X) : List Asrt := [rowA 67 3 (.slice A n c) n (ks0.flatMap encT67), oldX w (.slice A n c)]
abbrev cq_4I (A : Option Addr) (n : Nat) (c : Nat) (ks0 : List P3) (w : World) (x : cq_4X) : Act → World → Prop := Inv (cq_4s A n c ks0) (cq_4F A n c ks0 w) (cq_4k A n c ks0) (cq_4m A n c ks0) x
def cq_l15 (A : Option Addr) (n : Nat) (c : Nat) : List Value := [.slice A n c, zz, .slice none 0 0, .int .i64 1, zz, zz, .slice A n c, .int .i64 ((n : Nat) : Int), .bool false, zz, zz, zz, zz, zz, zz, zz]
def cq_b16 (A : Option Addr) (n : Nat) (c : Nat) : List Value := (cq_l15 A n c) ++ (cq_l1 ++ (cq_l1 ++ (cq_l2)))
def cq_l17 (A : Option Addr) (n : Nat) (c : Nat) (z4 : Nat → Value) (p : Nat) : List Value := [.slice A n c, zz, z4 2, .int .i64 ((p + 1 : Nat) : Int), z4 4, z4 5, .slice A n c, .int .i64 ((n : Nat) : Int), .bool false, zz, .int .i64 ((p + 1 : Nat) : Int), .slice A n c, .int .i64 ((n : Nat) : Int), .bool true, z4 14, z4 15]
def cq_l18 (A : Option Addr) (n : Nat) (c : Nat) (ks0 : List P3) (z4 : Nat → Value) (p : Nat) (g : Nat) : List Value := [.slice A n c, .int .i64 ((p + 1 : Nat) : Int), .pointer (some ⟨g, 0 + (p + 1) * 3, none⟩), .agg #[.int .i64 ((ks0[p + 1]!).1), .int .i64 ((ks0[p + 1]!).2.1), .int .i64 ((ks0[p + 1]!).2.2)], .slice A n c, .int .i64 ((p + 1 : Nat) : Int), .int .i64 ((p : Nat) : Int), .pointer (some ⟨g, 0 + p * 3, none⟩), .agg #[.int .i64 ((ks0[p]!).1), .int .i64 ((ks0[p]!).2.1), .int .i64 ((ks0[p]!).2.2)], .bool true, z4 26, z4 27, z4 28, z4 29, z4 30, z4 31]
def cq_b19 (A : Option Addr) (n : Nat) (c : Nat) (ks0 : List P3) (z4 : Nat → Value) (p : Nat) (g : Nat) : List Value := (cq_l17 A n c z4 p) ++ ((cq_l18 A n c ks0 z4 p g) ++ ((cq_l6 z4) ++ ((cq_l7 z4))))
def cq_l20 (A : Option Addr) (n : Nat) (c : Nat) (z4 : Nat → Value) (p : Nat) (q : Nat) (k : Nat) : List Value := [.slice A n c, zz, z4 2, .int .i64 ((k : Nat) : Int), .slice (cutp A (p + 1) c 3) (n - (p + 1)) (c - (p + 1)), .int .i64 ((q + 1 : Nat) : Int), .slice A n c, .int .i64 ((n : Nat) : Int), .bool false, zz, .int .i64 ((p + 1 : Nat) : Int), .slice A n c, .int .i64 ((n : Nat) : Int), .bool true, z4 14, z4 15]
def cq_l21 (A : Option Addr) (n : Nat) (c : Nat) (ks0 : List P3) (p : Nat) (g : Nat) (z9 : Nat → Value) : List Value := [.slice A n c, .int .i64 ((p + 1 : Nat) : Int), .pointer (some ⟨g, 0 + (p + 1) * 3, none⟩), .agg #[.int .i64 ((ks0[p + 1]!).1), .int .i64 ((ks0[p + 1]!).2.1), .int .i64 ((ks0[p + 1]!).2.2)], .slice A n c, .int .i64 ((p + 1 : Nat) : Int), .int .i64 ((p : Nat) : Int), .pointer (some ⟨g, 0 + p * 3, none⟩), .agg #[.int .i64 ((ks0[p]!).1), .int .i64 ((ks0[p]!).2.1), .int .i64 ((ks0[p]!).2.2)], .bool true, .slice A n c, .int .i64 ((p + 1 : Nat) : Int), .slice (cutp A (p + 1) c 3) (n - (p + 1)) (c - (p + 1)), z9 29, z9 30, z9 31]
def cq_l22 (z9 : Nat → Value) : List Value := [z9 32, z9 33, z9 34, z9 35, z9 36, z9 37, z9 38, z9 39, z9 40, z9 41, z9 42, z9 43, z9 44, z9 45, z9 46, z9 47]
def cq_l23 (z4 : Nat → Value) (z9 : Nat → Value) : List Value := [z9 48, z9 49, z9 50, z9 51, z9 52, z9 53, z4 54, z4 55, z4 56, z4 57, z4 58, z4 59, zz]
def cq_b24 (A : Option Addr) (n : Nat) (c : Nat) (ks0 : List P3) (z4 : Nat → Value) (p : Nat) (g : Nat) (z9 : Nat → Value) (q : Nat) (k : Nat) : List Value := (cq_l20 A n c z4 p q k) ++ ((cq_l21 A n c ks0 p g z9) ++ ((cq_l22 z9) ++ ((cq_l23 z4 z9))))
abbrev cq_9X := (Nat → Value) × Nat × Nat × (List P3)
def cq_9s (A : Option Addr) (n : Nat) (c : Nat) (ks0 : List P3) (z4 : Nat → Value) (p : Nat) (g : Nat) (x : cq_9X) : List Value × List Blk := ((cq_b24 A n c ks0 z4 p g (x.1) (x.2.1) (x.2.2.1)), [])
def cq_9k (A : Option Addr) (n : Nat) (c : Nat) (ks0 : List P3) (z4 : Nat → Value) (p : Nat) (g : Nat) (x : cq_9X) : Prop := CI ks0 (x.2.2.2) (p + 1) ((x.2.1) + 1) (x.2.2.1) ∧ (x.2.2.2).length = n
def cq_9m (A : Option Addr) (n : Nat) (c : Nat) (ks0 : List P3) (z4 : Nat → Value) (p : Nat) (g : Nat) (x : cq_9X) : Nat := n - (x.2.1)
def cq_9F (A : Option Addr) (n : Nat) (c : Nat) (ks0 : List P3) (z4 : Nat → Value) (p : Nat) (g : Nat) (w : World) (x : cq_9X) : List Asrt := [rowA 67 3 (.slice A n c) n ((x.2.2.2).flatMap encT67), oldX w (.slice A n c)]
abbrev cq_9I (A : Option Addr) (n : Nat) (c : Nat) (ks0 : List P3) (z4 : Nat → Value) (p : Nat) (g : Nat) (w : World) (x : cq_9X) : Act → World → Prop := Inv (cq_9s A n c ks0 z4 p g) (cq_9F A n c ks0 z4 p g w) (cq_9k A n c ks0 z4 p g) (cq_9m A n c ks0 z4 p g) x
def cq_l31 (A : Option Addr) (n : Nat) (c : Nat) (z4 : Nat → Value) (p : Nat) : List Value := [.slice A n c, zz, z4 2, .int .i64 ((p + 1 : Nat) : Int), .slice (cutp A (p + 1) c 3) (n - (p + 1)) (c - (p + 1)), .int .i64 1, .slice A n c, .int .i64 ((n : Nat) : Int), .bool false, zz, .int .i64 ((p + 1 : Nat) : Int), .slice A n c, .int .i64 ((n : Nat) : Int), .bool true, z4 14, z4 15]
def cq_l32 (A : Option Addr) (n : Nat) (c : Nat) (ks0 : List P3) (z4 : Nat → Value) (p : Nat) (g : Nat) : List Value := [.slice A n c, .int .i64 ((p + 1 : Nat) : Int), .pointer (some ⟨g, 0 + (p + 1) * 3, none⟩), .agg #[.int .i64 ((ks0[p + 1]!).1), .int .i64 ((ks0[p + 1]!).2.1), .int .i64 ((ks0[p + 1]!).2.2)], .slice A n c, .int .i64 ((p + 1 : Nat) : Int), .int .i64 ((p : Nat) : Int), .pointer (some ⟨g, 0 + p * 3, none⟩), .agg #[.int .i64 ((ks0[p]!).1), .int .i64 ((ks0[p]!).2.1), .int .i64 ((ks0[p]!).2.2)], .bool true, .slice A n c, .int .i64 ((p + 1 : Nat) : Int), .slice (cutp A (p + 1) c 3) (n - (p + 1)) (c - (p + 1)), z4 29, z4 30, z4 31]
def cq_b33 (A : Option Addr) (n : Nat) (c : Nat) (ks0 : List P3) (z4 : Nat → Value) (p : Nat) (g : Nat) : List Value := (cq_l31 A n c z4 p) ++ ((cq_l32 A n c ks0 z4 p g) ++ ((cq_l6 z4) ++ ((cq_l7 z4))))
def cq_l34 (A : Option Addr) (n : Nat) (c : Nat) (ks0 : List P3) (p : Nat) (g : Nat) (q : Nat) : List Value := [.slice A n c, .int .i64 ((p + 1 : Nat) : Int), .pointer (some ⟨g, 0 + (p + 1) * 3, none⟩), .agg #[.int .i64 ((ks0[p + 1]!).1), .int .i64 ((ks0[p + 1]!).2.1), .int .i64 ((ks0[p + 1]!).2.2)], .slice A n c, .int .i64 ((p + 1 : Nat) : Int), .int .i64 ((p : Nat) : Int), .pointer (some ⟨g, 0 + p * 3, none⟩), .agg #[.int .i64 ((ks0[p]!).1), .int .i64 ((ks0[p]!).2.1), .int .i64 ((ks0[p]!).2.2)], .bool true, .slice A n c, .int .i64 ((p + 1 : Nat) : Int), .slice (cutp A (p + 1) c 3) (n - (p + 1)) (c - (p + 1)), .int .i64 ((q + 1 : Nat) : Int), .slice (cutp A (p + 1) c 3) (n - (p + 1)) (c - (p + 1)), .int .i64 (((n - (p + 1)) : Nat) : Int)]
def cq_l35 (A : Option Addr) (n : Nat) (c : Nat) (p : Nat) (g : Nat) (z9 : Nat → Value) (q : Nat) (ks : List P3) : List Value := [.bool true, z9 33, z9 34, .slice (cutp A (p + 1) c 3) (n - (p + 1)) (c - (p + 1)), .int .i64 ((q + 1 : Nat) : Int), .pointer (some ⟨g, 0 + (p + 1) * 3 + (q + 1) * 3, none⟩), .agg #[.int .i64 (((ks.drop (p + 1))[q + 1]!).1), .int .i64 (((ks.drop (p + 1))[q + 1]!).2.1), .int .i64 (((ks.drop (p + 1))[q + 1]!).2.2)], .slice (cutp A (p + 1) c 3) (n - (p + 1)) (c - (p + 1)), .int .i64 ((q + 1 : Nat) : Int), .int .i64 ((q : Nat) : Int), .pointer (some ⟨g, 0 + (p + 1) * 3 + q * 3, none⟩), .agg #[.int .i64 (((ks.drop (p + 1))[q]!).1), .int .i64 (((ks.drop (p + 1))[q]!).2.1), .int .i64 (((ks.drop (p + 1))[q]!).2.2)], .bool false, z9 45, z9 46, z9 47]
def cq_b36 (A : Option Addr) (n : Nat) (c : Nat) (ks0 : List P3) (z4 : Nat → Value) (p : Nat) (g : Nat) (z9 : Nat → Value) (q : Nat) (k : Nat) (ks : List P3) : List Value := (cq_l20 A n c z4 p q k) ++ ((cq_l34 A n c ks0 p g q) ++ ((cq_l35 A n c p g z9 q ks) ++ ((cq_l23 z4 z9))))
def cq_l37 (A : Option Addr) (n : Nat) (c : Nat) (p : Nat) (g : Nat) (z9 : Nat → Value) (q : Nat) (ks : List P3) : List Value := [.bool true, z9 33, z9 34, .slice (cutp A (p + 1) c 3) (n - (p + 1)) (c - (p + 1)), .int .i64 ((q + 1 : Nat) : Int), .pointer (some ⟨g, 0 + (p + 1) * 3 + (q + 1) * 3, none⟩), .agg #[.int .i64 (((ks.drop (p + 1))[q + 1]!).1), .int .i64 (((ks.drop (p + 1))[q + 1]!).2.1), .int .i64 (((ks.drop (p + 1))[q + 1]!).2.2)], .slice (cutp A (p + 1) c 3) (n - (p + 1)) (c - (p + 1)), .int .i64 ((q + 1 : Nat) : Int), .int .i64 ((q : Nat) : Int), .pointer (some ⟨g, 0 + (p + 1) * 3 + q * 3, none⟩), .agg #[.int .i64 (((ks.drop (p + 1))[q]!).1), .int .i64 (((ks.drop (p + 1))[q]!).2.1), .int .i64 (((ks.drop (p + 1))[q]!).2.2)], .bool true, z9 45, z9 46, z9 47]
def cq_b38 (A : Option Addr) (n : Nat) (c : Nat) (ks0 : List P3) (z4 : Nat → Value) (p : Nat) (g : Nat) (z9 : Nat → Value) (q : Nat) (k : Nat) (ks : List P3) : List Value := (cq_l20 A n c z4 p q k) ++ ((cq_l34 A n c ks0 p g q) ++ ((cq_l37 A n c p g z9 q ks) ++ ((cq_l23 z4 z9))))
def cq_l39 (A : Option Addr) (n : Nat) (c : Nat) (z4 : Nat → Value) (p : Nat) (q : Nat) (k : Nat) : List Value := [.slice A n c, zz, z4 2, .int .i64 ((k + 1 : Nat) : Int), .slice (cutp A (p + 1) c 3) (n - (p + 1)) (c - (p + 1)), .int .i64 ((q + 1 + 1 : Nat) : Int), .slice A n c, .int .i64 ((n : Nat) : Int), .bool false, zz, .int .i64 ((p + 1 : Nat) : Int), .slice A n c, .int .i64 ((n : Nat) : Int), .bool true, z4 14, z4 15]
def cq_l40 (A : Option Addr) (n : Nat) (c : Nat) (p : Nat) (g : Nat) (q : Nat) (k : Nat) (ks : List P3) : List Value := [.bool true, .int .i64 ((q + 1 : Nat) : Int), .int .i64 ((q + 1 + 1 : Nat) : Int), .slice (cutp A (p + 1) c 3) (n - (p + 1)) (c - (p + 1)), .int .i64 ((q + 1 : Nat) : Int), .pointer (some ⟨g, 0 + (p + 1) * 3 + (q + 1) * 3, none⟩), .agg #[.int .i64 (((ks.drop (p + 1))[q + 1]!).1), .int .i64 (((ks.drop (p + 1))[q + 1]!).2.1), .int .i64 (((ks.drop (p + 1))[q + 1]!).2.2)], .slice (cutp A (p + 1) c 3) (n - (p + 1)) (c - (p + 1)), .int .i64 ((q + 1 : Nat) : Int), .int .i64 ((q : Nat) : Int), .pointer (some ⟨g, 0 + (p + 1) * 3 + q * 3, none⟩), .agg #[.int .i64 (((ks.drop (p + 1))[q]!).1), .int .i64 (((ks.drop (p + 1))[q]!).2.1), .int .i64 (((ks.drop (p + 1))[q]!).2.2)], .bool true, .slice A n c, .int .i64 ((k : Nat) : Int), .slice (cutp A (p + 1) c 3) (n - (p + 1)) (c - (p + 1))]
def cq_l41 (z4 : Nat → Value) (p : Nat) (g : Nat) (q : Nat) (k : Nat) (ks : List P3) : List Value := [.int .i64 ((q + 1 : Nat) : Int), .pointer (some ⟨g, 0 + (p + 1) * 3 + (q + 1) * 3, none⟩), .agg #[.int .i64 (((ks.drop (p + 1))[q + 1]!).1), .int .i64 (((ks.drop (p + 1))[q + 1]!).2.1), .int .i64 (((ks.drop (p + 1))[q + 1]!).2.2)], .pointer (some ⟨g, 0 + k * 3, none⟩), .int .i64 ((k : Nat) : Int), .int .i64 ((k + 1 : Nat) : Int), z4 54, z4 55, z4 56, z4 57, z4 58, z4 59, zz]
def cq_b42 (A : Option Addr) (n : Nat) (c : Nat) (ks0 : List P3) (z4 : Nat → Value) (p : Nat) (g : Nat) (q : Nat) (k : Nat) (ks : List P3) : List Value := (cq_l39 A n c z4 p q k) ++ ((cq_l34 A n c ks0 p g q) ++ ((cq_l40 A n c p g q k ks) ++ ((cq_l41 z4 p g q k ks))))
def cq_l43 (A : Option Addr) (n : Nat) (c : Nat) (ks0 : List P3) (z4 : Nat → Value) (p : Nat) (g : Nat) : List Value := [.slice A n c, .int .i64 ((p + 1 : Nat) : Int), .pointer (some ⟨g, 0 + (p + 1) * 3, none⟩), .agg #[.int .i64 ((ks0[p + 1]!).1), .int .i64 ((ks0[p + 1]!).2.1), .int .i64 ((ks0[p + 1]!).2.2)], .slice A n c, .int .i64 ((p + 1 : Nat) : Int), .int .i64 ((p : Nat) : Int), .pointer (some ⟨g, 0 + p * 3, none⟩), .agg #[.int .i64 ((ks0[p]!).1), .int .i64 ((ks0[p]!).2.1), .int .i64 ((ks0[p]!).2.2)], .bool false, z4 26, z4 27, z4 28, z4 29, z4 30, z4 31]
def cq_b44 (A : Option Addr) (n : Nat) (c : Nat) (ks0 : List P3) (z4 : Nat → Value) (p : Nat) (g : Nat) : List Value := (cq_l17 A n c z4 p) ++ ((cq_l43 A n c ks0 z4 p g) ++ ((cq_l6 z4) ++ ((cq_l7 z4))))
set_option maxHeartbeats 8000000 in
set_option maxRecDepth 100000 in
theorem compact_is {w : World} {A : Option Addr} {n c : Nat} {ks0 : List P3} (hlen : ks0.length = n) (hn : n ≤ 1000) (hown : ownR w 67 3 (.slice A n c) n (ks0.flatMap encT67)) : Calls Try.prog 50 #[.slice A n c] w fun e w' => ∃ x : Unit, e = .returned (.slice A (ddup ks0).length c) ∧ Turned (.slice A n c) w w' ∧ ownR w' 67 3 (.slice A n c) n ((cpd ks0).flatMap encT67) := by
  refine enterX (args := [.slice A n c]) (fn := Try.f50) rfl (c := bdy Try.f50) (by kernel_rfl) hown ?_
  refine ck 1 [] [] fun γ1 => ⟨⟨kt (bdy Try.f50) [1, 0, 0, 0] [], (cq_b3 A n c), []⟩, [], [], by kernel_rfl, .nil, ?_⟩
  by_cases h2 : n < 2
  · skip
    refine ck 5 [] [(2, .bool true)] fun γ2 => ⟨⟨kt (bdy Try.f50) [1, 0, 1, 0, 1] [], upv (cq_b3 A n c) [(2, .slice A n c), (6, .slice A n c), (7, .int .i64 ((n : Nat) : Int)), (8, .bool true), (9, .slice A n c)], []⟩, [], [Value.bool (decide ((((n : Nat) : Int) : Int) < 2)) = .bool true], by kernel_rfl, (.cons (cbT (by omega)) .nil), ?_⟩
    refine rt (.slice A n c) [] [] (fun W hW => ?_)
    have hid : ddup ks0 = ks0 := ddup_short (by omega)
    have hrow := hW.at 0 rfl
    exact ⟨(), by rw [hid, hlen], hW.at 1 rfl, by rw [cpd_id hid]; exact hrow⟩
  · skip
    refine ck 4 [] [(2, .bool false)] fun γ3 => ⟨⟨kt (bdy Try.f50) [1, 1, 0, 1, 0] [], upv (cq_b3 A n c) [(3, .int .i64 1), (6, .slice A n c), (7, .int .i64 ((n : Nat) : Int)), (8, .bool false)], []⟩, [], [Value.bool (decide ((((n : Nat) : Int) : Int) < 2)) = .bool false], by kernel_rfl, (.cons (cbF (by omega)) .nil), ?_⟩
    refine lp (cq_4s A n c ks0) (cq_4F A n c ks0 w) (cq_4k A n c ks0) (cq_4m A n c ks0) ((fun mm => ((cq_b16 A n c)).getD mm zz, 0)) (kt (bdy Try.f50) [1, 1, 0, 1, 0] []) ⟨co_start ks0, by omega⟩ rfl ?_
    rintro ⟨z4, p⟩ hok
    obtain ⟨hdd, hpn⟩ : ddup (ks0.take (p + 1)) = ks0.take (p + 1) ∧ p + 1 ≤ n := hok
    refine st1 (ktl [] (cq_4I A n c ks0 w (z4, p)) (kt (bdy Try.f50) [1, 1, 0, 1, 0] [])) ((cq_b8 A n c z4 p)) [] ?_
    by_cases hin : p + 1 < n
    · skip
      refine shp 0 rfl fun A' c' e' hc' hz' hl' => ?_
      cases e'
      obtain ⟨g, hg⟩ := hz'.resolve_left (by omega)
      clear hl'
      refine ck 4 [] [(3, .bool true)] fun γ5 => ⟨⟨ktl [1, 0, 0, 0] (cq_4I A n c ks0 w (z4, p)) (kt (bdy Try.f50) [1, 1, 0, 1, 0] []), upv (cq_b8 A n c z4 p) [(10, .int .i64 ((p + 1 : Nat) : Int)), (11, .slice A n c), (12, .int .i64 ((n : Nat) : Int)), (13, .bool true)], []⟩, [], [Value.bool (decide ((((p + 1 : Nat) : Int) : Int) < ((n : Nat) : Int))) = .bool true], by kernel_rfl, (.cons (cbT (by omega)) .nil), ?_⟩
      by_cases heq : ks0[p + 1]! = ks0[p]!
      · skip
        refine dr [] [] .nil ?_
        refine df [0, 1, 4, 5, 6] [] [(6, .int .i64 ((p : Nat) : Int))] [] [Value.int .i64 (IntKind.wrap .i64 (((p + 1 : Nat) : Int) - 1)) = .int .i64 ((p : Nat) : Int)] (.cons (congrArg (Value.int .i64) (by rw [IntKind.wrap_i64]; omega)) .nil) ?_
        refine dixr 2 (n := n) (sz := 3) (j := ((p + 1 : Nat) : Int)) hg (p + 1) (by omega) ?_
        refine dldr 3 (n := 3) (row := true) [.int .i64 ((ks0[p + 1]!).1), .int .i64 ((ks0[p + 1]!).2.1), .int .i64 ((ks0[p + 1]!).2.2)] (fun W hW => ((Rd.atE (own_rdn encT67_len (l := ks0) (by first | omega | (simp only [List.length_set]; omega) | simp) (hW.at 0 rfl)) hg (by omega))).ld (i := p + 1) (by omega) 0 [.int .i64 ((ks0[p + 1]!).1), .int .i64 ((ks0[p + 1]!).2.1), .int .i64 ((ks0[p + 1]!).2.2)] rfl) ?_
        refine dixr 7 (n := n) (sz := 3) (j := ((p : Nat) : Int)) hg p (by omega) ?_
        refine dldr 8 (n := 3) (row := true) [.int .i64 ((ks0[p]!).1), .int .i64 ((ks0[p]!).2.1), .int .i64 ((ks0[p]!).2.2)] (fun W hW => ((Rd.atE (own_rdn encT67_len (l := ks0) (by first | omega | (simp only [List.length_set]; omega) | simp) (hW.at 0 rfl)) hg (by omega))).ld (i := p) (by omega) 0 [.int .i64 ((ks0[p]!).1), .int .i64 ((ks0[p]!).2.1), .int .i64 ((ks0[p]!).2.2)] rfl) ?_
        refine deqr 9 (pos := true) (r := true) true (fun W => (eq67 ((ks0[p + 1]!).1) ((ks0[p + 1]!).2.1) ((ks0[p + 1]!).2.2) ((ks0[p]!).1) ((ks0[p]!).2.1) ((ks0[p]!).2.2) W).trans (by rw [decide_eq_true (by rw [heq]; exact ⟨rfl, rfl, rfl⟩)])) rfl ?_
        refine de (fs := (ktl [1, 0, 0, 0] (cq_4I A n c ks0 w (z4, p)) (kt (bdy Try.f50) [1, 1, 0, 1, 0] [])).tail) ?_
        refine st0 (fs := (ktl [1, 0, 0, 0] (cq_4I A n c ks0 w (z4, p)) (kt (bdy Try.f50) [1, 1, 0, 1, 0] [])).tail) ((cq_b19 A n c ks0 z4 p g)) [] ?_
        refine ck 2 [] [] fun γ6 => ⟨⟨ktl [1, 0, 0, 1, 0, 0, 2] (cq_4I A n c ks0 w (z4, p)) (kt (bdy Try.f50) [1, 1, 0, 1, 0] []), upv (cq_b19 A n c ks0 z4 p g) [(26, .slice A n c), (27, .int .i64 ((p + 1 : Nat) : Int))], []⟩, [], [], by kernel_rfl, .nil, ?_⟩
        refine shp 0 rfl fun A' c' e' hc' hz' hl' => ?_
        cases e'
        have hcp7 : n ≤ c := hc'
        clear hl' hz'
        refine sl (A := A) (n := n) (c := c) (sz := 3) (some (.int .i64 ((p + 1 : Nat) : Int))) none none (p + 1) n c rfl rfl rfl rfl (by omega) (by omega) (by omega) ?_
        refine ck 2 [] [] fun γ8 => ⟨⟨ktl [1, 0, 0, 1, 0, 1, 0, 1, 0] (cq_4I A n c ks0 w (z4, p)) (kt (bdy Try.f50) [1, 1, 0, 1, 0] []), upv (cq_b19 A n c ks0 z4 p g) [(4, .slice (cutp A (p + 1) c 3) (n - (p + 1)) (c - (p + 1))), (5, .int .i64 1), (26, .slice A n c), (27, .int .i64 ((p + 1 : Nat) : Int)), (28, .slice (cutp A (p + 1) c 3) (n - (p + 1)) (c - (p + 1)))], []⟩, [], [], by kernel_rfl, .nil, ?_⟩
        refine lp (cq_9s A n c ks0 z4 p g) (cq_9F A n c ks0 z4 p g w) (cq_9k A n c ks0 z4 p g) (cq_9m A n c ks0 z4 p g) ((fun mm => ((cq_b33 A n c ks0 z4 p g)).getD mm zz, 0, (p + 1), ks0)) (ktl [1, 0, 0, 1, 0, 1, 0, 1, 0] (cq_4I A n c ks0 w (z4, p)) (kt (bdy Try.f50) [1, 1, 0, 1, 0] [])) ⟨ci_start hdd (by omega) heq, hlen⟩ rfl ?_
        rintro ⟨z9, q, k, ks⟩ hok
        obtain ⟨hI, hkl⟩ : CI ks0 ks (p + 1) (q + 1) k ∧ ks.length = n := hok
        refine st1 (ktl [] (cq_9I A n c ks0 z4 p g w (z9, q, k, ks)) (ktl [1, 0, 0, 1, 0, 1, 0, 1, 0] (cq_4I A n c ks0 w (z4, p)) (kt (bdy Try.f50) [1, 1, 0, 1, 0] []))) ((cq_b24 A n c ks0 z4 p g z9 q k)) [] ?_
        have hI1 := hI.lt
        have hI2 := hI.le
        have hcut : cutp A (p + 1) c 3 = some ⟨g, 0 + (p + 1) * 3, none⟩ := by
          rw [hg]
          unfold cutp
          rw [if_neg (by omega)]
          simp [Addr.add_at]
        by_cases hin2 : q + 1 < n - (p + 1)
        · skip
          refine ck 4 [] [(3, .bool true)] fun γ10 => ⟨⟨ktl [1, 0, 0, 0] (cq_9I A n c ks0 z4 p g w (z9, q, k, ks)) (ktl [1, 0, 0, 1, 0, 1, 0, 1, 0] (cq_4I A n c ks0 w (z4, p)) (kt (bdy Try.f50) [1, 1, 0, 1, 0] [])), upv (cq_b24 A n c ks0 z4 p g z9 q k) [(29, .int .i64 ((q + 1 : Nat) : Int)), (30, .slice (cutp A (p + 1) c 3) (n - (p + 1)) (c - (p + 1))), (31, .int .i64 (((n - (p + 1)) : Nat) : Int)), (32, .bool true)], []⟩, [], [Value.bool (decide ((((q + 1 : Nat) : Int) : Int) < (((n - (p + 1)) : Nat) : Int))) = .bool true], by kernel_rfl, (.cons (cbT (by omega)) .nil), ?_⟩
          by_cases he2 : (ks.drop (p + 1))[q + 1]! = (ks.drop (p + 1))[q]!
          · skip
            refine dr [] [] .nil ?_
            refine df [0, 1, 4, 5, 6] [] [(6, .int .i64 ((q : Nat) : Int))] [] [Value.int .i64 (IntKind.wrap .i64 (((q + 1 : Nat) : Int) - 1)) = .int .i64 ((q : Nat) : Int)] (.cons (congrArg (Value.int .i64) (by rw [IntKind.wrap_i64]; omega)) .nil) ?_
            refine dixr 2 (n := (n - (p + 1))) (sz := 3) (j := ((q + 1 : Nat) : Int)) hcut (q + 1) (by omega) ?_
            refine dldr 3 (n := 3) (row := true) [.int .i64 (((ks.drop (p + 1))[q + 1]!).1), .int .i64 (((ks.drop (p + 1))[q + 1]!).2.1), .int .i64 (((ks.drop (p + 1))[q + 1]!).2.2)] (fun W hW => (((Rd.atE (own_rdn encT67_len (l := ks) (by first | omega | (simp only [List.length_set]; omega) | simp) (hW.at 0 rfl)) hg (by omega)).drop (p + 1))).ld (i := q + 1) (by rw [List.length_drop]; omega) 0 [.int .i64 (((ks.drop (p + 1))[q + 1]!).1), .int .i64 (((ks.drop (p + 1))[q + 1]!).2.1), .int .i64 (((ks.drop (p + 1))[q + 1]!).2.2)] rfl) ?_
            refine dixr 7 (n := (n - (p + 1))) (sz := 3) (j := ((q : Nat) : Int)) hcut q (by omega) ?_
            refine dldr 8 (n := 3) (row := true) [.int .i64 (((ks.drop (p + 1))[q]!).1), .int .i64 (((ks.drop (p + 1))[q]!).2.1), .int .i64 (((ks.drop (p + 1))[q]!).2.2)] (fun W hW => (((Rd.atE (own_rdn encT67_len (l := ks) (by first | omega | (simp only [List.length_set]; omega) | simp) (hW.at 0 rfl)) hg (by omega)).drop (p + 1))).ld (i := q) (by rw [List.length_drop]; omega) 0 [.int .i64 (((ks.drop (p + 1))[q]!).1), .int .i64 (((ks.drop (p + 1))[q]!).2.1), .int .i64 (((ks.drop (p + 1))[q]!).2.2)] rfl) ?_
            refine deqr 9 (pos := false) (r := true) false (fun W => (eq67 (((ks.drop (p + 1))[q + 1]!).1) (((ks.drop (p + 1))[q + 1]!).2.1) (((ks.drop (p + 1))[q + 1]!).2.2) (((ks.drop (p + 1))[q]!).1) (((ks.drop (p + 1))[q]!).2.1) (((ks.drop (p + 1))[q]!).2.2) W).trans (by rw [decide_eq_true (by rw [he2]; exact ⟨rfl, rfl, rfl⟩)])) rfl ?_
            refine de (fs := (ktl [1, 0, 0, 0] (cq_9I A n c ks0 z4 p g w (z9, q, k, ks)) (ktl [1, 0, 0, 1, 0, 1, 0, 1, 0] (cq_4I A n c ks0 w (z4, p)) (kt (bdy Try.f50) [1, 1, 0, 1, 0] []))).tail) ?_
            refine st0 (fs := (ktl [1, 0, 0, 0] (cq_9I A n c ks0 z4 p g w (z9, q, k, ks)) (ktl [1, 0, 0, 1, 0, 1, 0, 1, 0] (cq_4I A n c ks0 w (z4, p)) (kt (bdy Try.f50) [1, 1, 0, 1, 0] []))).tail) ((cq_b36 A n c ks0 z4 p g z9 q k ks)) [] ?_
            refine ck 3 [] [(1, .int .i64 ((q + 1 + 1 : Nat) : Int))] fun γ11 => ⟨⟨ktp (cq_9I A n c ks0 z4 p g w (z9, q, k, ks)) (ktl [1, 0, 0, 1, 0, 1, 0, 1, 0] (cq_4I A n c ks0 w (z4, p)) (kt (bdy Try.f50) [1, 1, 0, 1, 0] [])), upv (cq_b36 A n c ks0 z4 p g z9 q k ks) [(5, .int .i64 ((q + 1 + 1 : Nat) : Int)), (33, .int .i64 ((q + 1 : Nat) : Int)), (34, .int .i64 ((q + 1 + 1 : Nat) : Int))], []⟩, [], [Value.int .i64 (IntKind.wrap .i64 (((q + 1 : Nat) : Int) + 1)) = .int .i64 ((q + 1 + 1 : Nat) : Int)], by kernel_rfl, (.cons (congrArg (Value.int .i64) (by rw [IntKind.wrap_i64]; omega)) .nil), ?_⟩
            exact nx (st := cq_9s A n c ks0 z4 p g) (F' := cq_9F A n c ks0 z4 p g w) (ok := cq_9k A n c ks0 z4 p g) (μ := cq_9m A n c ks0 z4 p g) (x := (z9, q, k, ks)) (fun mm => (upv (cq_b36 A n c ks0 z4 p g z9 q k ks) [(5, .int .i64 ((q + 1 + 1 : Nat) : Int)), (33, .int .i64 ((q + 1 : Nat) : Int)), (34, .int .i64 ((q + 1 + 1 : Nat) : Int))]).getD mm zz, (q + 1), k, ks) (show CI ks0 ks (p + 1) ((q + 1) + 1) k ∧ ks.length = n from ⟨hI.eq (by omega) he2, hkl⟩) (by show _ < _; simp only [cq_9m]; omega) 0 0 rfl
          · skip
            refine dr [] [] .nil ?_
            refine df [0, 1, 4, 5, 6] [] [(6, .int .i64 ((q : Nat) : Int))] [] [Value.int .i64 (IntKind.wrap .i64 (((q + 1 : Nat) : Int) - 1)) = .int .i64 ((q : Nat) : Int)] (.cons (congrArg (Value.int .i64) (by rw [IntKind.wrap_i64]; omega)) .nil) ?_
            refine dixr 2 (n := (n - (p + 1))) (sz := 3) (j := ((q + 1 : Nat) : Int)) hcut (q + 1) (by omega) ?_
            refine dldr 3 (n := 3) (row := true) [.int .i64 (((ks.drop (p + 1))[q + 1]!).1), .int .i64 (((ks.drop (p + 1))[q + 1]!).2.1), .int .i64 (((ks.drop (p + 1))[q + 1]!).2.2)] (fun W hW => (((Rd.atE (own_rdn encT67_len (l := ks) (by first | omega | (simp only [List.length_set]; omega) | simp) (hW.at 0 rfl)) hg (by omega)).drop (p + 1))).ld (i := q + 1) (by rw [List.length_drop]; omega) 0 [.int .i64 (((ks.drop (p + 1))[q + 1]!).1), .int .i64 (((ks.drop (p + 1))[q + 1]!).2.1), .int .i64 (((ks.drop (p + 1))[q + 1]!).2.2)] rfl) ?_
            refine dixr 7 (n := (n - (p + 1))) (sz := 3) (j := ((q : Nat) : Int)) hcut q (by omega) ?_
            refine dldr 8 (n := 3) (row := true) [.int .i64 (((ks.drop (p + 1))[q]!).1), .int .i64 (((ks.drop (p + 1))[q]!).2.1), .int .i64 (((ks.drop (p + 1))[q]!).2.2)] (fun W hW => (((Rd.atE (own_rdn encT67_len (l := ks) (by first | omega | (simp only [List.length_set]; omega) | simp) (hW.at 0 rfl)) hg (by omega)).drop (p + 1))).ld (i := q) (by rw [List.length_drop]; omega) 0 [.int .i64 (((ks.drop (p + 1))[q]!).1), .int .i64 (((ks.drop (p + 1))[q]!).2.1), .int .i64 (((ks.drop (p + 1))[q]!).2.2)] rfl) ?_
            refine deqr 9 (pos := false) (r := false) true (fun W => (eq67 (((ks.drop (p + 1))[q + 1]!).1) (((ks.drop (p + 1))[q + 1]!).2.1) (((ks.drop (p + 1))[q + 1]!).2.2) (((ks.drop (p + 1))[q]!).1) (((ks.drop (p + 1))[q]!).2.1) (((ks.drop (p + 1))[q]!).2.2) W).trans (by rw [decide_eq_false (fun h9 => he2 (Prod.ext h9.1 (Prod.ext h9.2.1 h9.2.2)))])) rfl ?_
            refine de (fs := (ktl [1, 0, 0, 0] (cq_9I A n c ks0 z4 p g w (z9, q, k, ks)) (ktl [1, 0, 0, 1, 0, 1, 0, 1, 0] (cq_4I A n c ks0 w (z4, p)) (kt (bdy Try.f50) [1, 1, 0, 1, 0] []))).tail) ?_
            refine st0 (fs := (ktl [1, 0, 0, 0] (cq_9I A n c ks0 z4 p g w (z9, q, k, ks)) (ktl [1, 0, 0, 1, 0, 1, 0, 1, 0] (cq_4I A n c ks0 w (z4, p)) (kt (bdy Try.f50) [1, 1, 0, 1, 0] []))).tail) ((cq_b38 A n c ks0 z4 p g z9 q k ks)) [] ?_
            refine ck 4 [] [] fun γ12 => ⟨⟨ktl [1, 0, 0, 1, 0, 0, 4] (cq_9I A n c ks0 z4 p g w (z9, q, k, ks)) (ktl [1, 0, 0, 1, 0, 1, 0, 1, 0] (cq_4I A n c ks0 w (z4, p)) (kt (bdy Try.f50) [1, 1, 0, 1, 0] [])), upv (cq_b38 A n c ks0 z4 p g z9 q k ks) [(45, .slice A n c), (46, .int .i64 ((k : Nat) : Int)), (47, .slice (cutp A (p + 1) c 3) (n - (p + 1)) (c - (p + 1))), (48, .int .i64 ((q + 1 : Nat) : Int))], []⟩, [], [], by kernel_rfl, .nil, ?_⟩
            refine ixr (n := (n - (p + 1))) (sz := 3) (j := ((q + 1 : Nat) : Int)) hcut (q + 1) (by omega) ?_
            refine ldr (n := 3) (row := true) [.int .i64 (((ks.drop (p + 1))[q + 1]!).1), .int .i64 (((ks.drop (p + 1))[q + 1]!).2.1), .int .i64 (((ks.drop (p + 1))[q + 1]!).2.2)] (fun W hW => (((Rd.atE (own_rdn encT67_len (l := ks) (by first | omega | (simp only [List.length_set]; omega) | simp) (hW.at 0 rfl)) hg (by omega)).drop (p + 1))).ld (i := q + 1) (by rw [List.length_drop]; omega) 0 [.int .i64 (((ks.drop (p + 1))[q + 1]!).1), .int .i64 (((ks.drop (p + 1))[q + 1]!).2.1), .int .i64 (((ks.drop (p + 1))[q + 1]!).2.2)] rfl) ?_
            refine ixr (n := n) (sz := 3) (j := ((k : Nat) : Int)) hg k (by omega) ?_
            refine sto 0 (off := 0 + k * 3) (xs := ks.flatMap encT67) (vs := [.int .i64 (((ks.drop (p + 1))[q + 1]!).1), .int .i64 (((ks.drop (p + 1))[q + 1]!).2.1), .int .i64 (((ks.drop (p + 1))[q + 1]!).2.2)]) hg rfl (by first | (simp only [List.length_cons, List.length_nil, flat_len encT67_len, List.length_set]; omega) | simp) ((ks.set k (((ks.drop (p + 1))[q + 1]!).1, ((ks.drop (p + 1))[q + 1]!).2.1, ((ks.drop (p + 1))[q + 1]!).2.2)).flatMap encT67) (by rw [Nat.zero_add]; exact flat_set encT67_len _ _ (((ks.drop (p + 1))[q + 1]!).1, ((ks.drop (p + 1))[q + 1]!).2.1, ((ks.drop (p + 1))[q + 1]!).2.2) (by first | omega | simp)) ?_
            refine ck 6 [] [(1, .int .i64 ((k + 1 : Nat) : Int)), (4, .int .i64 ((q + 1 + 1 : Nat) : Int))] fun γ13 => ⟨⟨ktp (cq_9I A n c ks0 z4 p g w (z9, q, k, ks)) (ktl [1, 0, 0, 1, 0, 1, 0, 1, 0] (cq_4I A n c ks0 w (z4, p)) (kt (bdy Try.f50) [1, 1, 0, 1, 0] [])), (cq_b42 A n c ks0 z4 p g q k ks), []⟩, [], [Value.int .i64 (IntKind.wrap .i64 (((k : Nat) : Int) + 1)) = .int .i64 ((k + 1 : Nat) : Int), Value.int .i64 (IntKind.wrap .i64 (((q + 1 : Nat) : Int) + 1)) = .int .i64 ((q + 1 + 1 : Nat) : Int)], by kernel_rfl, (.cons (congrArg (Value.int .i64) (by rw [IntKind.wrap_i64]; omega)) (.cons (congrArg (Value.int .i64) (by rw [IntKind.wrap_i64]; omega)) .nil)), ?_⟩
            exact nx (st := cq_9s A n c ks0 z4 p g) (F' := cq_9F A n c ks0 z4 p g w) (ok := cq_9k A n c ks0 z4 p g) (μ := cq_9m A n c ks0 z4 p g) (x := (z9, q, k, ks)) (fun mm => ((cq_b42 A n c ks0 z4 p g q k ks)).getD mm zz, (q + 1), (k + 1), (ks.set k (((ks.drop (p + 1))[q + 1]!).1, ((ks.drop (p + 1))[q + 1]!).2.1, ((ks.drop (p + 1))[q + 1]!).2.2))) (show CI ks0 (ks.set k (((ks.drop (p + 1))[q + 1]!).1, ((ks.drop (p + 1))[q + 1]!).2.1, ((ks.drop (p + 1))[q + 1]!).2.2)) (p + 1) ((q + 1) + 1) (k + 1) ∧ (ks.set k (((ks.drop (p + 1))[q + 1]!).1, ((ks.drop (p + 1))[q + 1]!).2.1, ((ks.drop (p + 1))[q + 1]!).2.2)).length = n from ⟨hI.ne (by omega) he2, by simp only [List.length_set]; exact hkl⟩) (by show _ < _; simp only [cq_9m]; omega) 0 0 rfl
        · skip
          have hfin := hI.fin (by omega)
          have hkn : k < n := by have h9 := hfin.2.1; omega
          refine ck 6 [] [(3, .bool false)] fun γ14 => ⟨⟨ktl [1, 0, 0, 1, 0, 1, 1, 0, 2] (cq_4I A n c ks0 w (z4, p)) (kt (bdy Try.f50) [1, 1, 0, 1, 0] []), upv (cq_b24 A n c ks0 z4 p g z9 q k) [(29, .int .i64 ((q + 1 : Nat) : Int)), (30, .slice (cutp A (p + 1) c 3) (n - (p + 1)) (c - (p + 1))), (31, .int .i64 (((n - (p + 1)) : Nat) : Int)), (32, .bool false), (54, .slice A n c), (55, .int .i64 ((k : Nat) : Int))], []⟩, [], [Value.bool (decide ((((q + 1 : Nat) : Int) : Int) < (((n - (p + 1)) : Nat) : Int))) = .bool false], by kernel_rfl, (.cons (cbF (by omega)) .nil), ?_⟩
          refine sl (A := A) (n := n) (c := c) (sz := 3) (some (.int .i64 ((k : Nat) : Int))) none none k n c rfl rfl rfl rfl (by omega) (by omega) (by omega) ?_
          refine clr 0 (e := 67) (sz := 3) (n := n) (c := c) (A := A) (xs := ks.flatMap encT67) (z := [.int .i64 0, .int .i64 0, .int .i64 0]) k (n - k) rfl (by omega) (by omega) ((List.replicate (n - k) ((0, 0, 0) : P3)).flatMap encT67) (zeros_flat (enc := encT67) (0, 0, 0) _ rfl (by decide) (n - k)) (by rw [flat_len encT67_len, List.length_replicate]) ((cpd ks0).flatMap encT67) ?_ ?_ (h1 := zeros_cell (enc := encT67) encT67_cell _)
          · rw [← hfin.2.2, List.flatMap_append, flat_take encT67_len, hlen]
          refine ck 2 [] [] fun γ15 => ⟨⟨ktl [1, 0, 0, 1, 0, 1, 1, 1, 0, 2] (cq_4I A n c ks0 w (z4, p)) (kt (bdy Try.f50) [1, 1, 0, 1, 0] []), upv (cq_b24 A n c ks0 z4 p g z9 q k) [(29, .int .i64 ((q + 1 : Nat) : Int)), (30, .slice (cutp A (p + 1) c 3) (n - (p + 1)) (c - (p + 1))), (31, .int .i64 (((n - (p + 1)) : Nat) : Int)), (32, .bool false), (54, .slice A n c), (55, .int .i64 ((k : Nat) : Int)), (56, .slice (cutp A k c 3) (n - k) (c - k)), (57, .slice A n c), (58, .int .i64 ((k : Nat) : Int))], []⟩, [], [], by kernel_rfl, .nil, ?_⟩
          refine sl0 (A := A) (n := n) (c := c) (sz := 3) (some (.int .i64 ((k : Nat) : Int))) none k c rfl rfl rfl (by omega) (by omega) ?_ none rfl
          refine ck 1 [] [] fun γ16 => ⟨⟨ktl [1, 0, 0, 1, 0, 1, 1, 1, 1] (cq_4I A n c ks0 w (z4, p)) (kt (bdy Try.f50) [1, 1, 0, 1, 0] []), upv (cq_b24 A n c ks0 z4 p g z9 q k) [(2, .slice A k c), (29, .int .i64 ((q + 1 : Nat) : Int)), (30, .slice (cutp A (p + 1) c 3) (n - (p + 1)) (c - (p + 1))), (31, .int .i64 (((n - (p + 1)) : Nat) : Int)), (32, .bool false), (54, .slice A n c), (55, .int .i64 ((k : Nat) : Int)), (56, .slice (cutp A k c 3) (n - k) (c - k)), (57, .slice A n c), (58, .int .i64 ((k : Nat) : Int)), (59, .slice A k c)], []⟩, [], [], by kernel_rfl, .nil, ?_⟩
          refine rt (.slice A k c) [] [] (fun W hW => ?_)
          exact ⟨(), by rw [hfin.1], hW.at 1 rfl, hW.at 0 rfl⟩
      · skip
        refine dr [] [] .nil ?_
        refine df [0, 1, 4, 5, 6] [] [(6, .int .i64 ((p : Nat) : Int))] [] [Value.int .i64 (IntKind.wrap .i64 (((p + 1 : Nat) : Int) - 1)) = .int .i64 ((p : Nat) : Int)] (.cons (congrArg (Value.int .i64) (by rw [IntKind.wrap_i64]; omega)) .nil) ?_
        refine dixr 2 (n := n) (sz := 3) (j := ((p + 1 : Nat) : Int)) hg (p + 1) (by omega) ?_
        refine dldr 3 (n := 3) (row := true) [.int .i64 ((ks0[p + 1]!).1), .int .i64 ((ks0[p + 1]!).2.1), .int .i64 ((ks0[p + 1]!).2.2)] (fun W hW => ((Rd.atE (own_rdn encT67_len (l := ks0) (by first | omega | (simp only [List.length_set]; omega) | simp) (hW.at 0 rfl)) hg (by omega))).ld (i := p + 1) (by omega) 0 [.int .i64 ((ks0[p + 1]!).1), .int .i64 ((ks0[p + 1]!).2.1), .int .i64 ((ks0[p + 1]!).2.2)] rfl) ?_
        refine dixr 7 (n := n) (sz := 3) (j := ((p : Nat) : Int)) hg p (by omega) ?_
        refine dldr 8 (n := 3) (row := true) [.int .i64 ((ks0[p]!).1), .int .i64 ((ks0[p]!).2.1), .int .i64 ((ks0[p]!).2.2)] (fun W hW => ((Rd.atE (own_rdn encT67_len (l := ks0) (by first | omega | (simp only [List.length_set]; omega) | simp) (hW.at 0 rfl)) hg (by omega))).ld (i := p) (by omega) 0 [.int .i64 ((ks0[p]!).1), .int .i64 ((ks0[p]!).2.1), .int .i64 ((ks0[p]!).2.2)] rfl) ?_
        refine deqr 9 (pos := true) (r := false) false (fun W => (eq67 ((ks0[p + 1]!).1) ((ks0[p + 1]!).2.1) ((ks0[p + 1]!).2.2) ((ks0[p]!).1) ((ks0[p]!).2.1) ((ks0[p]!).2.2) W).trans (by rw [decide_eq_false (fun h9 => heq (Prod.ext h9.1 (Prod.ext h9.2.1 h9.2.2)))])) rfl ?_
        refine de (fs := (ktl [1, 0, 0, 0] (cq_4I A n c ks0 w (z4, p)) (kt (bdy Try.f50) [1, 1, 0, 1, 0] [])).tail) ?_
        refine st0 (fs := (ktl [1, 0, 0, 0] (cq_4I A n c ks0 w (z4, p)) (kt (bdy Try.f50) [1, 1, 0, 1, 0] [])).tail) ((cq_b44 A n c ks0 z4 p g)) [] ?_
        refine ck 3 [] [(1, .int .i64 ((p + 1 + 1 : Nat) : Int))] fun γ17 => ⟨⟨ktp (cq_4I A n c ks0 w (z4, p)) (kt (bdy Try.f50) [1, 1, 0, 1, 0] []), upv (cq_b44 A n c ks0 z4 p g) [(3, .int .i64 ((p + 1 + 1 : Nat) : Int)), (14, .int .i64 ((p + 1 : Nat) : Int)), (15, .int .i64 ((p + 1 + 1 : Nat) : Int))], []⟩, [], [Value.int .i64 (IntKind.wrap .i64 (((p + 1 : Nat) : Int) + 1)) = .int .i64 ((p + 1 + 1 : Nat) : Int)], by kernel_rfl, (.cons (congrArg (Value.int .i64) (by rw [IntKind.wrap_i64]; omega)) .nil), ?_⟩
        exact nx (st := cq_4s A n c ks0) (F' := cq_4F A n c ks0 w) (ok := cq_4k A n c ks0) (μ := cq_4m A n c ks0) (x := (z4, p)) (fun mm => (upv (cq_b44 A n c ks0 z4 p g) [(3, .int .i64 ((p + 1 + 1 : Nat) : Int)), (14, .int .i64 ((p + 1 : Nat) : Int)), (15, .int .i64 ((p + 1 + 1 : Nat) : Int))]).getD mm zz, (p + 1)) (show ddup (ks0.take ((p + 1) + 1)) = ks0.take ((p + 1) + 1) ∧ (p + 1) + 1 ≤ n from ⟨co_step hdd (by omega) heq, by omega⟩) (by show _ < _; simp only [cq_4m]; omega) 0 0 rfl
    · skip
      refine ck 6 [] [(3, .bool false)] fun γ18 => ⟨⟨kt (bdy Try.f50) [1, 1, 1, 1] [], upv (cq_b8 A n c z4 p) [(2, .slice A n c), (10, .int .i64 ((p + 1 : Nat) : Int)), (11, .slice A n c), (12, .int .i64 ((n : Nat) : Int)), (13, .bool false), (60, .slice A n c)], []⟩, [], [Value.bool (decide ((((p + 1 : Nat) : Int) : Int) < ((n : Nat) : Int))) = .bool false], by kernel_rfl, (.cons (cbF (by omega)) .nil), ?_⟩
      refine rt (.slice A n c) [] [] (fun W hW => ?_)
      have hid : ddup ks0 = ks0 := co_end hdd (by omega)
      have hrow := hW.at 0 rfl
      exact ⟨(), by rw [hid, hlen], hW.at 1 rfl, by rw [cpd_id hid]; exact hrow⟩
end Go.Proofs.Ytglkhjjhjhhonaa.Sr
