/- Rows of places held against each other. No condition beside those that each theorem names. -/
import Derived.Test.YthcmcekjgecnhacFtE
namespace Go.Proofs.Ythcmcekjgecnhac.Sr
open Go.RowKit Go.Proofs.YthcmcekjgecnhacM.Mach
set_option linter.unusedVariables false
set_option linter.unusedSimpArgs false
theorem eq_of_get {xs ys : List P3} (hl : xs.length = ys.length) (h : ∀ j, j < xs.length → xs[j]! = ys[j]!) : xs = ys := by
  refine List.ext_getElem hl fun i h1 h2 => ?_
  have h3 := h i h1
  rw [getElem!_pos xs i h1, getElem!_pos ys i h2] at h3
  exact h3
def equ_l0 (A : Option Addr) (c : Nat) (xs : List P3) (A1 : Option Addr) (c1 : Nat) (ys : List P3) : List Value := [.slice A xs.length c, .slice A1 ys.length c1, zz, zz, .bool false, zz, zz, zz, zz, zz, zz, zz, zz, zz, zz, zz]
def equ_l1 : List Value := [zz, zz, zz, zz, zz, zz, zz, zz, zz, zz]
def equ_b2 (A : Option Addr) (c : Nat) (xs : List P3) (A1 : Option Addr) (c1 : Nat) (ys : List P3) : List Value := (equ_l0 A c xs A1 c1 ys) ++ (equ_l1)
def equ_l3 (A : Option Addr) (c : Nat) (xs : List P3) (A1 : Option Addr) (c1 : Nat) (ys : List P3) (z3 : Nat → Value) (i : Nat) : List Value := [.slice A xs.length c, .slice A1 ys.length c1, zz, zz, z3 4, z3 5, .slice A xs.length c, .int .i64 ((xs.length : Nat) : Int), .slice A1 ys.length c1, .int .i64 ((ys.length : Nat) : Int), .bool false, .slice A xs.length c, .int .i64 ((xs.length : Nat) : Int), .int .i64 (i : Int), z3 14, z3 15]
def equ_l4 (z3 : Nat → Value) : List Value := [z3 16, z3 17, z3 18, z3 19, z3 20, z3 21, z3 22, z3 23, z3 24, z3 25]
def equ_b5 (A : Option Addr) (c : Nat) (xs : List P3) (A1 : Option Addr) (c1 : Nat) (ys : List P3) (z3 : Nat → Value) (i : Nat) : List Value := (equ_l3 A c xs A1 c1 ys z3 i) ++ ((equ_l4 z3))
abbrev equ_3X := (Nat → Value) × Nat
def equ_3s (A : Option Addr) (c : Nat) (xs : List P3) (A1 : Option Addr) (c1 : Nat) (ys : List P3) (x : equ_3X) : List Value × List Blk := ((equ_b5 A c xs A1 c1 ys (x.1) (x.2)), [])
def equ_3k (A : Option Addr) (c : Nat) (xs : List P3) (A1 : Option Addr) (c1 : Nat) (ys : List P3) (x : equ_3X) : Prop := (x.2) ≤ xs.length ∧ ∀ j, j < (x.2) → xs[j]! = ys[j]!
def equ_3m (A : Option Addr) (c : Nat) (xs : List P3) (A1 : Option Addr) (c1 : Nat) (ys : List P3) (x : equ_3X) : Nat := xs.length - (x.2)
def equ_3F (A : Option Addr) (c : Nat) (xs : List P3) (A1 : Option Addr) (c1 : Nat) (ys : List P3) (w : World) (x : equ_3X) : List Asrt := [old w]
abbrev equ_3I (A : Option Addr) (c : Nat) (xs : List P3) (A1 : Option Addr) (c1 : Nat) (ys : List P3) (w : World) (x : equ_3X) : Act → World → Prop := Inv (equ_3s A c xs A1 c1 ys) (equ_3F A c xs A1 c1 ys w) (equ_3k A c xs A1 c1 ys) (equ_3m A c xs A1 c1 ys) x
def equ_l12 (A : Option Addr) (c : Nat) (xs : List P3) (A1 : Option Addr) (c1 : Nat) (ys : List P3) : List Value := [.slice A xs.length c, .slice A1 ys.length c1, zz, zz, .bool false, zz, .slice A xs.length c, .int .i64 ((xs.length : Nat) : Int), .slice A1 ys.length c1, .int .i64 ((ys.length : Nat) : Int), .bool false, .slice A xs.length c, .int .i64 ((xs.length : Nat) : Int), .int .i64 0, zz, zz]
def equ_b13 (A : Option Addr) (c : Nat) (xs : List P3) (A1 : Option Addr) (c1 : Nat) (ys : List P3) : List Value := (equ_l12 A c xs A1 c1 ys) ++ (equ_l1)
def equ_l14 (A : Option Addr) (c : Nat) (xs : List P3) (A1 : Option Addr) (c1 : Nat) (ys : List P3) (z3 : Nat → Value) (i : Nat) : List Value := [.slice A xs.length c, .slice A1 ys.length c1, zz, zz, z3 4, .int .i64 (i : Int), .slice A xs.length c, .int .i64 ((xs.length : Nat) : Int), .slice A1 ys.length c1, .int .i64 ((ys.length : Nat) : Int), .bool false, .slice A xs.length c, .int .i64 ((xs.length : Nat) : Int), .int .i64 ((i + 1 : Nat) : Int), .bool true, .int .i64 (i : Int)]
def equ_l15 (A : Option Addr) (c : Nat) (xs : List P3) (A1 : Option Addr) (c1 : Nat) (ys : List P3) (i : Nat) (B : Nat) (o : Nat) (B1 : Nat) (o1 : Nat) : List Value := [.slice A xs.length c, .int .i64 (i : Int), .pointer (some ⟨B, o + i * 3, none⟩), .agg #[.int .i64 ((xs[i]!).1), .int .i64 ((xs[i]!).2.1), .int .i64 ((xs[i]!).2.2)], .slice A1 ys.length c1, .int .i64 (i : Int), .pointer (some ⟨B1, o1 + i * 3, none⟩), .agg #[.int .i64 ((ys[i]!).1), .int .i64 ((ys[i]!).2.1), .int .i64 ((ys[i]!).2.2)], .bool false, .int .i64 ((i + 1 : Nat) : Int)]
def equ_b16 (A : Option Addr) (c : Nat) (xs : List P3) (A1 : Option Addr) (c1 : Nat) (ys : List P3) (z3 : Nat → Value) (i : Nat) (B : Nat) (o : Nat) (B1 : Nat) (o1 : Nat) : List Value := (equ_l14 A c xs A1 c1 ys z3 i) ++ ((equ_l15 A c xs A1 c1 ys i B o B1 o1))
def equ_l17 (A : Option Addr) (c : Nat) (xs : List P3) (A1 : Option Addr) (c1 : Nat) (ys : List P3) (i : Nat) : List Value := [.slice A xs.length c, .slice A1 ys.length c1, zz, zz, .bool false, .int .i64 (i : Int), .slice A xs.length c, .int .i64 ((xs.length : Nat) : Int), .slice A1 ys.length c1, .int .i64 ((ys.length : Nat) : Int), .bool false, .slice A xs.length c, .int .i64 ((xs.length : Nat) : Int), .int .i64 (i : Int), .bool true, .int .i64 (i : Int)]
def equ_l18 (A : Option Addr) (c : Nat) (xs : List P3) (A1 : Option Addr) (c1 : Nat) (ys : List P3) (z3 : Nat → Value) (i : Nat) (B : Nat) (o : Nat) (B1 : Nat) (o1 : Nat) : List Value := [.slice A xs.length c, .int .i64 (i : Int), .pointer (some ⟨B, o + i * 3, none⟩), .agg #[.int .i64 ((xs[i]!).1), .int .i64 ((xs[i]!).2.1), .int .i64 ((xs[i]!).2.2)], .slice A1 ys.length c1, .int .i64 (i : Int), .pointer (some ⟨B1, o1 + i * 3, none⟩), .agg #[.int .i64 ((ys[i]!).1), .int .i64 ((ys[i]!).2.1), .int .i64 ((ys[i]!).2.2)], .bool true, z3 25]
def equ_b19 (A : Option Addr) (c : Nat) (xs : List P3) (A1 : Option Addr) (c1 : Nat) (ys : List P3) (z3 : Nat → Value) (i : Nat) (B : Nat) (o : Nat) (B1 : Nat) (o1 : Nat) : List Value := (equ_l17 A c xs A1 c1 ys i) ++ ((equ_l18 A c xs A1 c1 ys z3 i B o B1 o1))
set_option maxHeartbeats 8000000 in
set_option maxRecDepth 100000 in
theorem equal_is {w : World} {A A1 : Option Addr} {c c1 : Nat} {xs ys : List P3} (h : Rd w (.slice A xs.length c) 3 encT46 xs) (h1 : Rd w (.slice A1 ys.length c1) 3 encT46 ys) (hl : xs.length ≤ 1000) (hl1 : ys.length ≤ 1000) : Calls Try.prog 35 #[.slice A xs.length c, .slice A1 ys.length c1] w fun e w' => e = .returned (.bool (decide (xs = ys))) ∧ Below w.heap.size w w' := by
  refine enter (args := [.slice A xs.length c, .slice A1 ys.length c1]) (fn := Try.f35) rfl (c := bdy Try.f35) (by kernel_rfl) ?_
  refine ck 1 [] [] fun γ1 => ⟨⟨kt (bdy Try.f35) [1, 0, 0, 0] [], (equ_b2 A c xs A1 c1 ys), []⟩, [], [], by kernel_rfl, .nil, ?_⟩
  by_cases hlen : xs.length = ys.length
  · skip
    refine ck 8 [] [(4, .bool false)] fun γ2 => ⟨⟨kt (bdy Try.f35) [1, 1, 0, 1, 0] [], upv (equ_b2 A c xs A1 c1 ys) [(6, .slice A xs.length c), (7, .int .i64 ((xs.length : Nat) : Int)), (8, .slice A1 ys.length c1), (9, .int .i64 ((ys.length : Nat) : Int)), (10, .bool false), (11, .slice A xs.length c), (12, .int .i64 ((xs.length : Nat) : Int)), (13, .int .i64 0)], []⟩, [], [Value.bool ((((xs.length : Nat) : Int) : Int) != ((ys.length : Nat) : Int)) = .bool false], by kernel_rfl, (.cons (cnF (by omega)) .nil), ?_⟩
    refine lp (equ_3s A c xs A1 c1 ys) (equ_3F A c xs A1 c1 ys w) (equ_3k A c xs A1 c1 ys) (equ_3m A c xs A1 c1 ys) ((fun mm => ((equ_b13 A c xs A1 c1 ys)).getD mm zz, 0)) (kt (bdy Try.f35) [1, 1, 0, 1, 0] []) ⟨Nat.zero_le _, fun j hj => absurd hj (Nat.not_lt_zero j)⟩ rfl ?_
    rintro ⟨z3, i⟩ hok
    obtain ⟨hi, hx⟩ : i ≤ xs.length ∧ ∀ j, j < i → xs[j]! = ys[j]! := hok
    refine st1 (ktl [] (equ_3I A c xs A1 c1 ys w (z3, i)) (kt (bdy Try.f35) [1, 1, 0, 1, 0] [])) ((equ_b5 A c xs A1 c1 ys z3 i)) [] ?_
    by_cases hin : i < xs.length
    · skip
      obtain ⟨B, o, hAe, hat⟩ := h.at (i := i) (by omega)
      obtain ⟨B1, o1, hAe1, hat1⟩ := h1.at (i := i) (by omega)
      refine ck 3 [] [(0, .bool true)] fun γ4 => ⟨⟨ktl [1, 1, 0, 0, 1, 0] (equ_3I A c xs A1 c1 ys w (z3, i)) (kt (bdy Try.f35) [1, 1, 0, 1, 0] []), upv (equ_b5 A c xs A1 c1 ys z3 i) [(5, .int .i64 (i : Int)), (14, .bool true), (15, .int .i64 (i : Int))], []⟩, [], [Value.bool (decide (((i : Int) : Int) < ((xs.length : Nat) : Int))) = .bool true], by kernel_rfl, (.cons (cbT (by omega)) .nil), ?_⟩
      by_cases heq : xs[i]! = ys[i]!
      · skip
        refine dr [] [] .nil ?_
        refine df [0, 1, 4, 5] [] [] [] [] .nil ?_
        refine dixr 2 (n := xs.length) (sz := 3) (j := (i : Int)) hAe i (by omega) ?_
        refine dldr 3 (n := 3) (row := true) [.int .i64 ((xs[i]!).1), .int .i64 ((xs[i]!).2.1), .int .i64 ((xs[i]!).2.2)] (fun W hW => (hat.below (hW.old 0 rfl)).ld (i := i) (by omega) 0 [.int .i64 ((xs[i]!).1), .int .i64 ((xs[i]!).2.1), .int .i64 ((xs[i]!).2.2)] rfl) ?_
        refine dixr 6 (n := ys.length) (sz := 3) (j := (i : Int)) hAe1 i (by omega) ?_
        refine dldr 7 (n := 3) (row := true) [.int .i64 ((ys[i]!).1), .int .i64 ((ys[i]!).2.1), .int .i64 ((ys[i]!).2.2)] (fun W hW => (hat1.below (hW.old 0 rfl)).ld (i := i) (by omega) 0 [.int .i64 ((ys[i]!).1), .int .i64 ((ys[i]!).2.1), .int .i64 ((ys[i]!).2.2)] rfl) ?_
        refine deqr 8 (pos := false) (r := true) false (fun W => (eq46 ((xs[i]!).1) ((xs[i]!).2.1) ((xs[i]!).2.2) ((ys[i]!).1) ((ys[i]!).2.1) ((ys[i]!).2.2) W).trans (by rw [decide_eq_true (by rw [heq]; exact ⟨rfl, rfl, rfl⟩)])) rfl ?_
        refine de (fs := (ktl [1, 1, 0, 0, 1, 0] (equ_3I A c xs A1 c1 ys w (z3, i)) (kt (bdy Try.f35) [1, 1, 0, 1, 0] [])).tail) ?_
        refine st0 (fs := (ktl [1, 1, 0, 0, 1, 0] (equ_3I A c xs A1 c1 ys w (z3, i)) (kt (bdy Try.f35) [1, 1, 0, 1, 0] [])).tail) (upv (equ_b5 A c xs A1 c1 ys z3 i) [(5, .int .i64 (i : Int)), (14, .bool true), (15, .int .i64 (i : Int)), (16, .slice A xs.length c), (17, .int .i64 (i : Int)), (18, .pointer (some ⟨B, o + i * 3, none⟩)), (19, .agg #[.int .i64 ((xs[i]!).1), .int .i64 ((xs[i]!).2.1), .int .i64 ((xs[i]!).2.2)]), (20, .slice A1 ys.length c1), (21, .int .i64 (i : Int)), (22, .pointer (some ⟨B1, o1 + i * 3, none⟩)), (23, .agg #[.int .i64 ((ys[i]!).1), .int .i64 ((ys[i]!).2.1), .int .i64 ((ys[i]!).2.2)]), (24, .bool false)]) [] ?_
        refine ck 2 [] [(0, .int .i64 ((i + 1 : Nat) : Int))] fun γ5 => ⟨⟨ktp (equ_3I A c xs A1 c1 ys w (z3, i)) (kt (bdy Try.f35) [1, 1, 0, 1, 0] []), (equ_b16 A c xs A1 c1 ys z3 i B o B1 o1), []⟩, [], [Value.int .i64 (IntKind.wrap .i64 ((i : Int) + 1)) = .int .i64 ((i + 1 : Nat) : Int)], by kernel_rfl, (.cons (congrArg (Value.int .i64) (by rw [IntKind.wrap_i64]; omega)) .nil), ?_⟩
        exact nx (st := equ_3s A c xs A1 c1 ys) (F' := equ_3F A c xs A1 c1 ys w) (ok := equ_3k A c xs A1 c1 ys) (μ := equ_3m A c xs A1 c1 ys) (x := (z3, i)) (fun mm => ((equ_b16 A c xs A1 c1 ys z3 i B o B1 o1)).getD mm zz, (i + 1)) (show (i + 1) ≤ xs.length ∧ ∀ j, j < (i + 1) → xs[j]! = ys[j]! from ⟨by omega, fun j hj => by rcases Nat.lt_succ_iff_lt_or_eq.1 hj with h9 | h9; exact hx j h9; subst h9; exact heq⟩) (by show _ < _; simp only [equ_3m]; omega) 0 0 rfl
      · skip
        refine dr [] [] .nil ?_
        refine df [0, 1, 4, 5] [] [] [] [] .nil ?_
        refine dixr 2 (n := xs.length) (sz := 3) (j := (i : Int)) hAe i (by omega) ?_
        refine dldr 3 (n := 3) (row := true) [.int .i64 ((xs[i]!).1), .int .i64 ((xs[i]!).2.1), .int .i64 ((xs[i]!).2.2)] (fun W hW => (hat.below (hW.old 0 rfl)).ld (i := i) (by omega) 0 [.int .i64 ((xs[i]!).1), .int .i64 ((xs[i]!).2.1), .int .i64 ((xs[i]!).2.2)] rfl) ?_
        refine dixr 6 (n := ys.length) (sz := 3) (j := (i : Int)) hAe1 i (by omega) ?_
        refine dldr 7 (n := 3) (row := true) [.int .i64 ((ys[i]!).1), .int .i64 ((ys[i]!).2.1), .int .i64 ((ys[i]!).2.2)] (fun W hW => (hat1.below (hW.old 0 rfl)).ld (i := i) (by omega) 0 [.int .i64 ((ys[i]!).1), .int .i64 ((ys[i]!).2.1), .int .i64 ((ys[i]!).2.2)] rfl) ?_
        refine deqr 8 (pos := false) (r := false) true (fun W => (eq46 ((xs[i]!).1) ((xs[i]!).2.1) ((xs[i]!).2.2) ((ys[i]!).1) ((ys[i]!).2.1) ((ys[i]!).2.2) W).trans (by rw [decide_eq_false (fun h9 => heq (Prod.ext h9.1 (Prod.ext h9.2.1 h9.2.2)))])) rfl ?_
        refine de (fs := (ktl [1, 1, 0, 0, 1, 0] (equ_3I A c xs A1 c1 ys w (z3, i)) (kt (bdy Try.f35) [1, 1, 0, 1, 0] [])).tail) ?_
        refine st0 (fs := (ktl [1, 1, 0, 0, 1, 0] (equ_3I A c xs A1 c1 ys w (z3, i)) (kt (bdy Try.f35) [1, 1, 0, 1, 0] [])).tail) (upv (equ_b5 A c xs A1 c1 ys z3 i) [(5, .int .i64 (i : Int)), (14, .bool true), (15, .int .i64 (i : Int)), (16, .slice A xs.length c), (17, .int .i64 (i : Int)), (18, .pointer (some ⟨B, o + i * 3, none⟩)), (19, .agg #[.int .i64 ((xs[i]!).1), .int .i64 ((xs[i]!).2.1), .int .i64 ((xs[i]!).2.2)]), (20, .slice A1 ys.length c1), (21, .int .i64 (i : Int)), (22, .pointer (some ⟨B1, o1 + i * 3, none⟩)), (23, .agg #[.int .i64 ((ys[i]!).1), .int .i64 ((ys[i]!).2.1), .int .i64 ((ys[i]!).2.2)]), (24, .bool true)]) [] ?_
        refine ck 1 [] [] fun γ6 => ⟨⟨ktl [1, 1, 0, 0, 1, 1, 0, 1] (equ_3I A c xs A1 c1 ys w (z3, i)) (kt (bdy Try.f35) [1, 1, 0, 1, 0] []), (equ_b19 A c xs A1 c1 ys z3 i B o B1 o1), []⟩, [], [], by kernel_rfl, .nil, ?_⟩
        refine rt (.bool false) [] [] (fun W hW => ?_)
        rw [decide_eq_false (fun h9 => by first | exact heq (by rw [h9]) | exact hlen (by rw [h9]))]
        exact ⟨rfl, (hW.old 0 rfl)⟩
    · skip
      refine ck 2 [] [(0, .bool false)] fun γ7 => ⟨⟨kt (bdy Try.f35) [1, 1, 1, 1] [], upv (equ_b5 A c xs A1 c1 ys z3 i) [(4, .bool true), (14, .bool false)], []⟩, [], [Value.bool (decide (((i : Int) : Int) < ((xs.length : Nat) : Int))) = .bool false], by kernel_rfl, (.cons (cbF (by omega)) .nil), ?_⟩
      refine rt (.bool true) [] [] (fun W hW => ?_)
      rw [decide_eq_true (eq_of_get hlen fun j hj => hx j (by omega))]
      exact ⟨rfl, (hW.old 0 rfl)⟩
  · skip
    refine ck 6 [] [(4, .bool true)] fun γ8 => ⟨⟨kt (bdy Try.f35) [1, 0, 1, 0, 1] [], upv (equ_b2 A c xs A1 c1 ys) [(6, .slice A xs.length c), (7, .int .i64 ((xs.length : Nat) : Int)), (8, .slice A1 ys.length c1), (9, .int .i64 ((ys.length : Nat) : Int)), (10, .bool true)], []⟩, [], [Value.bool ((((xs.length : Nat) : Int) : Int) != ((ys.length : Nat) : Int)) = .bool true], by kernel_rfl, (.cons (cnT (by omega)) .nil), ?_⟩
    refine rt (.bool false) [] [] (fun W hW => ?_)
    rw [decide_eq_false (fun h9 => by first | exact heq (by rw [h9]) | exact hlen (by rw [h9]))]
    exact ⟨rfl, (hW.old 0 rfl)⟩
def pla_l0 (A : Option Addr) (c : Nat) (xs : List P3) (A1 : Option Addr) (c1 : Nat) (ys : List P3) : List Value := [.slice A xs.length c, .slice A1 ys.length c1, zz, zz, .bool false, zz, zz, zz, zz, zz, zz, zz, zz, zz, zz, zz]
def pla_l1 : List Value := [zz, zz, zz, zz, zz, zz, zz, zz, zz, zz]
def pla_b2 (A : Option Addr) (c : Nat) (xs : List P3) (A1 : Option Addr) (c1 : Nat) (ys : List P3) : List Value := (pla_l0 A c xs A1 c1 ys) ++ (pla_l1)
def pla_l3 (A : Option Addr) (c : Nat) (xs : List P3) (A1 : Option Addr) (c1 : Nat) (ys : List P3) (z3 : Nat → Value) (i : Nat) : List Value := [.slice A xs.length c, .slice A1 ys.length c1, zz, zz, z3 4, .int .i64 (i : Int), .slice A xs.length c, .int .i64 ((xs.length : Nat) : Int), .slice A1 ys.length c1, .int .i64 ((ys.length : Nat) : Int), .bool false, z3 11, z3 12, z3 13, z3 14, z3 15]
def pla_l4 (z3 : Nat → Value) : List Value := [z3 16, z3 17, z3 18, z3 19, z3 20, z3 21, z3 22, z3 23, z3 24, z3 25]
def pla_b5 (A : Option Addr) (c : Nat) (xs : List P3) (A1 : Option Addr) (c1 : Nat) (ys : List P3) (z3 : Nat → Value) (i : Nat) : List Value := (pla_l3 A c xs A1 c1 ys z3 i) ++ ((pla_l4 z3))
abbrev pla_3X := (Nat → Value) × Nat
def pla_3s (A : Option Addr) (c : Nat) (xs : List P3) (A1 : Option Addr) (c1 : Nat) (ys : List P3) (x : pla_3X) : List Value × List Blk := ((pla_b5 A c xs A1 c1 ys (x.1) (x.2)), [])
def pla_3k (A : Option Addr) (c : Nat) (xs : List P3) (A1 : Option Addr) (c1 : Nat) (ys : List P3) (x : pla_3X) : Prop := (x.2) ≤ xs.length ∧ ∀ j, j < (x.2) → xs[j]! = ys[j]!
def pla_3m (A : Option Addr) (c : Nat) (xs : List P3) (A1 : Option Addr) (c1 : Nat) (ys : List P3) (x : pla_3X) : Nat := xs.length - (x.2)
def pla_3F (A : Option Addr) (c : Nat) (xs : List P3) (A1 : Option Addr) (c1 : Nat) (ys : List P3) (w : World) (x : pla_3X) : List Asrt := [old w]
abbrev pla_3I (A : Option Addr) (c : Nat) (xs : List P3) (A1 : Option Addr) (c1 : Nat) (ys : List P3) (w : World) (x : pla_3X) : Act → World → Prop := Inv (pla_3s A c xs A1 c1 ys) (pla_3F A c xs A1 c1 ys w) (pla_3k A c xs A1 c1 ys) (pla_3m A c xs A1 c1 ys) x
def pla_l12 (A : Option Addr) (c : Nat) (xs : List P3) (A1 : Option Addr) (c1 : Nat) (ys : List P3) : List Value := [.slice A xs.length c, .slice A1 ys.length c1, zz, zz, .bool false, .int .i64 0, .slice A xs.length c, .int .i64 ((xs.length : Nat) : Int), .slice A1 ys.length c1, .int .i64 ((ys.length : Nat) : Int), .bool false, zz, zz, zz, zz, zz]
def pla_b13 (A : Option Addr) (c : Nat) (xs : List P3) (A1 : Option Addr) (c1 : Nat) (ys : List P3) : List Value := (pla_l12 A c xs A1 c1 ys) ++ (pla_l1)
def pla_l14 (A : Option Addr) (c : Nat) (xs : List P3) (A1 : Option Addr) (c1 : Nat) (ys : List P3) (z3 : Nat → Value) (i : Nat) : List Value := [.slice A xs.length c, .slice A1 ys.length c1, zz, zz, z3 4, .int .i64 (i : Int), .slice A xs.length c, .int .i64 ((xs.length : Nat) : Int), .slice A1 ys.length c1, .int .i64 ((ys.length : Nat) : Int), .bool false, .int .i64 (i : Int), .slice A xs.length c, .int .i64 ((xs.length : Nat) : Int), .bool true, z3 15]
def pla_l15 (A : Option Addr) (c : Nat) (xs : List P3) (A1 : Option Addr) (c1 : Nat) (ys : List P3) (z3 : Nat → Value) (i : Nat) (B : Nat) (o : Nat) (B1 : Nat) (o1 : Nat) : List Value := [z3 16, .slice A xs.length c, .int .i64 (i : Int), .pointer (some ⟨B, o + i * 3, none⟩), .agg #[.int .i64 ((xs[i]!).1), .int .i64 ((xs[i]!).2.1), .int .i64 ((xs[i]!).2.2)], .slice A1 ys.length c1, .int .i64 (i : Int), .pointer (some ⟨B1, o1 + i * 3, none⟩), .agg #[.int .i64 ((ys[i]!).1), .int .i64 ((ys[i]!).2.1), .int .i64 ((ys[i]!).2.2)], .bool false]
def pla_b16 (A : Option Addr) (c : Nat) (xs : List P3) (A1 : Option Addr) (c1 : Nat) (ys : List P3) (z3 : Nat → Value) (i : Nat) (B : Nat) (o : Nat) (B1 : Nat) (o1 : Nat) : List Value := (pla_l14 A c xs A1 c1 ys z3 i) ++ ((pla_l15 A c xs A1 c1 ys z3 i B o B1 o1))
def pla_l17 (A : Option Addr) (c : Nat) (xs : List P3) (A1 : Option Addr) (c1 : Nat) (ys : List P3) (z3 : Nat → Value) (i : Nat) (B : Nat) (o : Nat) (B1 : Nat) (o1 : Nat) : List Value := [z3 16, .slice A xs.length c, .int .i64 (i : Int), .pointer (some ⟨B, o + i * 3, none⟩), .agg #[.int .i64 ((xs[i]!).1), .int .i64 ((xs[i]!).2.1), .int .i64 ((xs[i]!).2.2)], .slice A1 ys.length c1, .int .i64 (i : Int), .pointer (some ⟨B1, o1 + i * 3, none⟩), .agg #[.int .i64 ((ys[i]!).1), .int .i64 ((ys[i]!).2.1), .int .i64 ((ys[i]!).2.2)], .bool true]
def pla_b18 (A : Option Addr) (c : Nat) (xs : List P3) (A1 : Option Addr) (c1 : Nat) (ys : List P3) (z3 : Nat → Value) (i : Nat) (B : Nat) (o : Nat) (B1 : Nat) (o1 : Nat) : List Value := (pla_l14 A c xs A1 c1 ys z3 i) ++ ((pla_l17 A c xs A1 c1 ys z3 i B o B1 o1))
set_option maxHeartbeats 8000000 in
set_option maxRecDepth 100000 in
theorem places_is {w : World} {A A1 : Option Addr} {c c1 : Nat} {xs ys : List P3} (h : Rd w (.slice A xs.length c) 3 encT46 xs) (h1 : Rd w (.slice A1 ys.length c1) 3 encT46 ys) (hl : xs.length ≤ 1000) (hl1 : ys.length ≤ 1000) : Calls Try.prog 31 #[.slice A xs.length c, .slice A1 ys.length c1] w fun e w' => e = .returned (.bool (decide (xs = ys))) ∧ Below w.heap.size w w' := by
  refine enter (args := [.slice A xs.length c, .slice A1 ys.length c1]) (fn := Try.f31) rfl (c := bdy Try.f31) (by kernel_rfl) ?_
  refine ck 1 [] [] fun γ1 => ⟨⟨kt (bdy Try.f31) [1, 0, 0, 0] [], (pla_b2 A c xs A1 c1 ys), []⟩, [], [], by kernel_rfl, .nil, ?_⟩
  by_cases hlen : xs.length = ys.length
  · skip
    refine ck 6 [] [(4, .bool false)] fun γ2 => ⟨⟨kt (bdy Try.f31) [1, 1, 0, 1, 0] [], upv (pla_b2 A c xs A1 c1 ys) [(5, .int .i64 0), (6, .slice A xs.length c), (7, .int .i64 ((xs.length : Nat) : Int)), (8, .slice A1 ys.length c1), (9, .int .i64 ((ys.length : Nat) : Int)), (10, .bool false)], []⟩, [], [Value.bool ((((xs.length : Nat) : Int) : Int) != ((ys.length : Nat) : Int)) = .bool false], by kernel_rfl, (.cons (cnF (by omega)) .nil), ?_⟩
    refine lp (pla_3s A c xs A1 c1 ys) (pla_3F A c xs A1 c1 ys w) (pla_3k A c xs A1 c1 ys) (pla_3m A c xs A1 c1 ys) ((fun mm => ((pla_b13 A c xs A1 c1 ys)).getD mm zz, 0)) (kt (bdy Try.f31) [1, 1, 0, 1, 0] []) ⟨Nat.zero_le _, fun j hj => absurd hj (Nat.not_lt_zero j)⟩ rfl ?_
    rintro ⟨z3, i⟩ hok
    obtain ⟨hi, hx⟩ : i ≤ xs.length ∧ ∀ j, j < i → xs[j]! = ys[j]! := hok
    refine st1 (ktl [] (pla_3I A c xs A1 c1 ys w (z3, i)) (kt (bdy Try.f31) [1, 1, 0, 1, 0] [])) ((pla_b5 A c xs A1 c1 ys z3 i)) [] ?_
    by_cases hin : i < xs.length
    · skip
      obtain ⟨B, o, hAe, hat⟩ := h.at (i := i) (by omega)
      obtain ⟨B1, o1, hAe1, hat1⟩ := h1.at (i := i) (by omega)
      refine ck 4 [] [(3, .bool true)] fun γ4 => ⟨⟨ktl [1, 0, 0, 0] (pla_3I A c xs A1 c1 ys w (z3, i)) (kt (bdy Try.f31) [1, 1, 0, 1, 0] []), upv (pla_b5 A c xs A1 c1 ys z3 i) [(11, .int .i64 (i : Int)), (12, .slice A xs.length c), (13, .int .i64 ((xs.length : Nat) : Int)), (14, .bool true)], []⟩, [], [Value.bool (decide (((i : Int) : Int) < ((xs.length : Nat) : Int))) = .bool true], by kernel_rfl, (.cons (cbT (by omega)) .nil), ?_⟩
      by_cases heq : xs[i]! = ys[i]!
      · skip
        refine dr [] [] .nil ?_
        refine df [0, 1, 4, 5] [] [] [] [] .nil ?_
        refine dixr 2 (n := xs.length) (sz := 3) (j := (i : Int)) hAe i (by omega) ?_
        refine dldr 3 (n := 3) (row := true) [.int .i64 ((xs[i]!).1), .int .i64 ((xs[i]!).2.1), .int .i64 ((xs[i]!).2.2)] (fun W hW => (hat.below (hW.old 0 rfl)).ld (i := i) (by omega) 0 [.int .i64 ((xs[i]!).1), .int .i64 ((xs[i]!).2.1), .int .i64 ((xs[i]!).2.2)] rfl) ?_
        refine dixr 6 (n := ys.length) (sz := 3) (j := (i : Int)) hAe1 i (by omega) ?_
        refine dldr 7 (n := 3) (row := true) [.int .i64 ((ys[i]!).1), .int .i64 ((ys[i]!).2.1), .int .i64 ((ys[i]!).2.2)] (fun W hW => (hat1.below (hW.old 0 rfl)).ld (i := i) (by omega) 0 [.int .i64 ((ys[i]!).1), .int .i64 ((ys[i]!).2.1), .int .i64 ((ys[i]!).2.2)] rfl) ?_
        refine deqr 8 (pos := false) (r := true) false (fun W => (eq46 ((xs[i]!).1) ((xs[i]!).2.1) ((xs[i]!).2.2) ((ys[i]!).1) ((ys[i]!).2.1) ((ys[i]!).2.2) W).trans (by rw [decide_eq_true (by rw [heq]; exact ⟨rfl, rfl, rfl⟩)])) rfl ?_
        refine de (fs := (ktl [1, 0, 0, 0] (pla_3I A c xs A1 c1 ys w (z3, i)) (kt (bdy Try.f31) [1, 1, 0, 1, 0] [])).tail) ?_
        refine st0 (fs := (ktl [1, 0, 0, 0] (pla_3I A c xs A1 c1 ys w (z3, i)) (kt (bdy Try.f31) [1, 1, 0, 1, 0] [])).tail) ((pla_b16 A c xs A1 c1 ys z3 i B o B1 o1)) [] ?_
        refine ck 3 [] [(1, .int .i64 ((i + 1 : Nat) : Int))] fun γ5 => ⟨⟨ktp (pla_3I A c xs A1 c1 ys w (z3, i)) (kt (bdy Try.f31) [1, 1, 0, 1, 0] []), upv (pla_b16 A c xs A1 c1 ys z3 i B o B1 o1) [(5, .int .i64 ((i + 1 : Nat) : Int)), (15, .int .i64 (i : Int)), (16, .int .i64 ((i + 1 : Nat) : Int))], []⟩, [], [Value.int .i64 (IntKind.wrap .i64 ((i : Int) + 1)) = .int .i64 ((i + 1 : Nat) : Int)], by kernel_rfl, (.cons (congrArg (Value.int .i64) (by rw [IntKind.wrap_i64]; omega)) .nil), ?_⟩
        exact nx (st := pla_3s A c xs A1 c1 ys) (F' := pla_3F A c xs A1 c1 ys w) (ok := pla_3k A c xs A1 c1 ys) (μ := pla_3m A c xs A1 c1 ys) (x := (z3, i)) (fun mm => (upv (pla_b16 A c xs A1 c1 ys z3 i B o B1 o1) [(5, .int .i64 ((i + 1 : Nat) : Int)), (15, .int .i64 (i : Int)), (16, .int .i64 ((i + 1 : Nat) : Int))]).getD mm zz, (i + 1)) (show (i + 1) ≤ xs.length ∧ ∀ j, j < (i + 1) → xs[j]! = ys[j]! from ⟨by omega, fun j hj => by rcases Nat.lt_succ_iff_lt_or_eq.1 hj with h9 | h9; exact hx j h9; subst h9; exact heq⟩) (by show _ < _; simp only [pla_3m]; omega) 0 0 rfl
      · skip
        refine dr [] [] .nil ?_
        refine df [0, 1, 4, 5] [] [] [] [] .nil ?_
        refine dixr 2 (n := xs.length) (sz := 3) (j := (i : Int)) hAe i (by omega) ?_
        refine dldr 3 (n := 3) (row := true) [.int .i64 ((xs[i]!).1), .int .i64 ((xs[i]!).2.1), .int .i64 ((xs[i]!).2.2)] (fun W hW => (hat.below (hW.old 0 rfl)).ld (i := i) (by omega) 0 [.int .i64 ((xs[i]!).1), .int .i64 ((xs[i]!).2.1), .int .i64 ((xs[i]!).2.2)] rfl) ?_
        refine dixr 6 (n := ys.length) (sz := 3) (j := (i : Int)) hAe1 i (by omega) ?_
        refine dldr 7 (n := 3) (row := true) [.int .i64 ((ys[i]!).1), .int .i64 ((ys[i]!).2.1), .int .i64 ((ys[i]!).2.2)] (fun W hW => (hat1.below (hW.old 0 rfl)).ld (i := i) (by omega) 0 [.int .i64 ((ys[i]!).1), .int .i64 ((ys[i]!).2.1), .int .i64 ((ys[i]!).2.2)] rfl) ?_
        refine deqr 8 (pos := false) (r := false) true (fun W => (eq46 ((xs[i]!).1) ((xs[i]!).2.1) ((xs[i]!).2.2) ((ys[i]!).1) ((ys[i]!).2.1) ((ys[i]!).2.2) W).trans (by rw [decide_eq_false (fun h9 => heq (Prod.ext h9.1 (Prod.ext h9.2.1 h9.2.2)))])) rfl ?_
        refine de (fs := (ktl [1, 0, 0, 0] (pla_3I A c xs A1 c1 ys w (z3, i)) (kt (bdy Try.f31) [1, 1, 0, 1, 0] [])).tail) ?_
        refine st0 (fs := (ktl [1, 0, 0, 0] (pla_3I A c xs A1 c1 ys w (z3, i)) (kt (bdy Try.f31) [1, 1, 0, 1, 0] [])).tail) ((pla_b18 A c xs A1 c1 ys z3 i B o B1 o1)) [] ?_
        refine ck 1 [] [] fun γ6 => ⟨⟨ktl [1, 0, 0, 1, 0, 1] (pla_3I A c xs A1 c1 ys w (z3, i)) (kt (bdy Try.f31) [1, 1, 0, 1, 0] []), upv (pla_b18 A c xs A1 c1 ys z3 i B o B1 o1) [(4, .bool false)], []⟩, [], [], by kernel_rfl, .nil, ?_⟩
        refine rt (.bool false) [] [] (fun W hW => ?_)
        rw [decide_eq_false (fun h9 => by first | exact heq (by rw [h9]) | exact hlen (by rw [h9]))]
        exact ⟨rfl, (hW.old 0 rfl)⟩
    · skip
      refine ck 5 [] [(3, .bool false)] fun γ7 => ⟨⟨kt (bdy Try.f31) [1, 1, 1, 1] [], upv (pla_b5 A c xs A1 c1 ys z3 i) [(4, .bool true), (11, .int .i64 (i : Int)), (12, .slice A xs.length c), (13, .int .i64 ((xs.length : Nat) : Int)), (14, .bool false)], []⟩, [], [Value.bool (decide (((i : Int) : Int) < ((xs.length : Nat) : Int))) = .bool false], by kernel_rfl, (.cons (cbF (by omega)) .nil), ?_⟩
      refine rt (.bool true) [] [] (fun W hW => ?_)
      rw [decide_eq_true (eq_of_get hlen fun j hj => hx j (by omega))]
      exact ⟨rfl, (hW.old 0 rfl)⟩
  · skip
    refine ck 6 [] [(4, .bool true)] fun γ8 => ⟨⟨kt (bdy Try.f31) [1, 0, 1, 0, 1] [], upv (pla_b2 A c xs A1 c1 ys) [(6, .slice A xs.length c), (7, .int .i64 ((xs.length : Nat) : Int)), (8, .slice A1 ys.length c1), (9, .int .i64 ((ys.length : Nat) : Int)), (10, .bool true)], []⟩, [], [Value.bool ((((xs.length : Nat) : Int) : Int) != ((ys.length : Nat) : Int)) = .bool true], by kernel_rfl, (.cons (cnT (by omega)) .nil), ?_⟩
    refine rt (.bool false) [] [] (fun W hW => ?_)
    rw [decide_eq_false (fun h9 => by first | exact heq (by rw [h9]) | exact hlen (by rw [h9]))]
    exact ⟨rfl, (hW.old 0 rfl)⟩
end Go.Proofs.Ythcmcekjgecnhac.Sr
