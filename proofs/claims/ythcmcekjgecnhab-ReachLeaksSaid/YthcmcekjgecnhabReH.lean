/- Cuts; bools held against each other. No condition beside those that each theorem names. -/
import Derived.Test.YthcmcekjgecnhabReF
import Derived.Test.YthcmcekjgecnhabReG
import Derived.Test.YthcmcekjgecnhabReC
namespace Go.Proofs.Ythcmcekjgecnhab.Sr
open Go.RowKit Go.Proofs.YthcmcekjgecnhabM.Mach
set_option linter.unusedVariables false
set_option linter.unusedSimpArgs false
def few_is_0_l0 (A : Option Addr) (n : Nat) (c : Nat) : List Value := [.slice A n c, zz, .slice none 0 0, .slice A n c, .int .i64 ((n : Nat) : Int), .bool true, .slice A n c, zz, zz]
def few_is_1_l0 (A : Option Addr) (n : Nat) (c : Nat) : List Value := [.slice A n c, zz, .slice A n c, .slice A n c, .int .i64 ((n : Nat) : Int), .bool false, zz, zz, .slice A n c]
set_option maxHeartbeats 8000000 in
set_option maxRecDepth 100000 in
theorem few_is {A : Option Addr} {n c : Nat} (hn : n ≤ c) (w : World) : Calls Try.prog 10 #[.slice A n c] w fun e w' => e = .returned (.slice A (min n 8) c) ∧ Below w.heap.size w w' := by
  by_cases h8 : n > 8
  · skip
    refine enter (args := [.slice A n c]) (fn := Try.f10) rfl (c := bdy Try.f10) (by kernel_rfl) ?_
    refine ck 5 [] [(3, .bool true)] fun γ1 => ⟨⟨kt (bdy Try.f10) [1, 0, 1, 0, 0, 1] [], (few_is_0_l0 A n c), []⟩, [], [Value.bool (decide ((((n : Nat) : Int) : Int) > 8)) = .bool true], by kernel_rfl, (.cons (cbT (by omega)) .nil), ?_⟩
    refine sl0 (A := A) (n := n) (c := c) (sz := 3) (some (.int .i64 8)) none 8 c rfl rfl rfl (by omega) (by omega) ?_ none rfl
    refine ck 1 [] [] fun γ2 => ⟨⟨kt (bdy Try.f10) [1, 0, 1, 0, 1] [], upv (few_is_0_l0 A n c) [(2, .slice A 8 c), (7, .slice A 8 c)], []⟩, [], [], by kernel_rfl, .nil, ?_⟩
    refine rt (.slice A 8 c) [] [] (fun W hW => ?_)
    rw [Nat.min_eq_right (by omega)]
    exact ⟨rfl, (hW.old 0 rfl)⟩
  · skip
    refine enter (args := [.slice A n c]) (fn := Try.f10) rfl (c := bdy Try.f10) (by kernel_rfl) ?_
    refine ck 6 [] [(3, .bool false)] fun γ1 => ⟨⟨kt (bdy Try.f10) [1, 1, 1] [], (few_is_1_l0 A n c), []⟩, [], [Value.bool (decide ((((n : Nat) : Int) : Int) > 8)) = .bool false], by kernel_rfl, (.cons (cbF (by omega)) .nil), ?_⟩
    refine rt (.slice A n c) [] [] (fun W hW => ?_)
    rw [Nat.min_eq_left (by omega)]
    exact ⟨rfl, (hW.old 0 rfl)⟩
def some_is_0_l0 (A : Option Addr) (n : Nat) (c : Nat) : List Value := [.slice A n c, zz, .slice none 0 0, .slice A n c, .int .i64 ((n : Nat) : Int), .bool true, .slice A n c, zz, zz]
def some_is_1_l0 (A : Option Addr) (n : Nat) (c : Nat) : List Value := [.slice A n c, zz, .slice A n c, .slice A n c, .int .i64 ((n : Nat) : Int), .bool false, zz, zz, .slice A n c]
set_option maxHeartbeats 8000000 in
set_option maxRecDepth 100000 in
theorem some_is {A : Option Addr} {n c : Nat} (hn : n ≤ c) (w : World) : Calls Try.prog 11 #[.slice A n c] w fun e w' => e = .returned (.slice A (min n 8) c) ∧ Below w.heap.size w w' := by
  by_cases h8 : n > 8
  · skip
    refine enter (args := [.slice A n c]) (fn := Try.f11) rfl (c := bdy Try.f11) (by kernel_rfl) ?_
    refine ck 5 [] [(3, .bool true)] fun γ1 => ⟨⟨kt (bdy Try.f11) [1, 0, 1, 0, 0, 1] [], (some_is_0_l0 A n c), []⟩, [], [Value.bool (decide ((((n : Nat) : Int) : Int) > 8)) = .bool true], by kernel_rfl, (.cons (cbT (by omega)) .nil), ?_⟩
    refine sl0 (A := A) (n := n) (c := c) (sz := 10) (some (.int .i64 8)) none 8 c rfl rfl rfl (by omega) (by omega) ?_ none rfl
    refine ck 1 [] [] fun γ2 => ⟨⟨kt (bdy Try.f11) [1, 0, 1, 0, 1] [], upv (some_is_0_l0 A n c) [(2, .slice A 8 c), (7, .slice A 8 c)], []⟩, [], [], by kernel_rfl, .nil, ?_⟩
    refine rt (.slice A 8 c) [] [] (fun W hW => ?_)
    rw [Nat.min_eq_right (by omega)]
    exact ⟨rfl, (hW.old 0 rfl)⟩
  · skip
    refine enter (args := [.slice A n c]) (fn := Try.f11) rfl (c := bdy Try.f11) (by kernel_rfl) ?_
    refine ck 6 [] [(3, .bool false)] fun γ1 => ⟨⟨kt (bdy Try.f11) [1, 1, 1] [], (some_is_1_l0 A n c), []⟩, [], [Value.bool (decide ((((n : Nat) : Int) : Int) > 8)) = .bool false], by kernel_rfl, (.cons (cbF (by omega)) .nil), ?_⟩
    refine rt (.slice A n c) [] [] (fun W hW => ?_)
    rw [Nat.min_eq_left (by omega)]
    exact ⟨rfl, (hW.old 0 rfl)⟩
def bools_same_l0 (A : Option Addr) (c : Nat) (A1 : Option Addr) (c1 : Nat) (xs : List (Bool)) : List Value := [.slice A xs.length c, .slice A1 xs.length c1, zz, zz, .bool false, .int .i64 0, .slice A xs.length c, .int .i64 ((xs.length : Nat) : Int), .slice A1 xs.length c1, .int .i64 ((xs.length : Nat) : Int), .bool false, zz, zz, zz, zz, zz]
def bools_same_l1 : List Value := [zz, zz, zz, zz, zz, zz, zz, zz, zz, zz]
def bools_same_b2 (A : Option Addr) (c : Nat) (A1 : Option Addr) (c1 : Nat) (xs : List (Bool)) : List Value := (bools_same_l0 A c A1 c1 xs) ++ (bools_same_l1)
def bools_same_l3 (A : Option Addr) (c : Nat) (A1 : Option Addr) (c1 : Nat) (xs : List (Bool)) (z2 : Nat → Value) (i : Nat) : List Value := [.slice A xs.length c, .slice A1 xs.length c1, zz, zz, z2 4, .int .i64 (i : Int), .slice A xs.length c, .int .i64 ((xs.length : Nat) : Int), .slice A1 xs.length c1, .int .i64 ((xs.length : Nat) : Int), .bool false, z2 11, z2 12, z2 13, z2 14, z2 15]
def bools_same_l4 (z2 : Nat → Value) : List Value := [z2 16, z2 17, z2 18, z2 19, z2 20, z2 21, z2 22, z2 23, z2 24, z2 25]
def bools_same_b5 (A : Option Addr) (c : Nat) (A1 : Option Addr) (c1 : Nat) (xs : List (Bool)) (z2 : Nat → Value) (i : Nat) : List Value := (bools_same_l3 A c A1 c1 xs z2 i) ++ ((bools_same_l4 z2))
abbrev bools_same_2X := (Nat → Value) × Nat
def bools_same_2s (A : Option Addr) (c : Nat) (A1 : Option Addr) (c1 : Nat) (xs : List (Bool)) (x : bools_same_2X) : List Value × List Blk := ((bools_same_b5 A c A1 c1 xs (x.1) (x.2)), [])
def bools_same_2k (A : Option Addr) (c : Nat) (A1 : Option Addr) (c1 : Nat) (xs : List (Bool)) (x : bools_same_2X) : Prop := (x.2) ≤ xs.length
def bools_same_2m (A : Option Addr) (c : Nat) (A1 : Option Addr) (c1 : Nat) (xs : List (Bool)) (x : bools_same_2X) : Nat := xs.length - (x.2)
def bools_same_2F (A : Option Addr) (c : Nat) (A1 : Option Addr) (c1 : Nat) (xs : List (Bool)) (w : World) (x : bools_same_2X) : List Asrt := [old w]
abbrev bools_same_2I (A : Option Addr) (c : Nat) (A1 : Option Addr) (c1 : Nat) (xs : List (Bool)) (w : World) (x : bools_same_2X) : Act → World → Prop := Inv (bools_same_2s A c A1 c1 xs) (bools_same_2F A c A1 c1 xs w) (bools_same_2k A c A1 c1 xs) (bools_same_2m A c A1 c1 xs) x
def bools_same_l12 (A : Option Addr) (c : Nat) (A1 : Option Addr) (c1 : Nat) (xs : List (Bool)) (z2 : Nat → Value) (i : Nat) : List Value := [.slice A xs.length c, .slice A1 xs.length c1, zz, zz, z2 4, .int .i64 (i : Int), .slice A xs.length c, .int .i64 ((xs.length : Nat) : Int), .slice A1 xs.length c1, .int .i64 ((xs.length : Nat) : Int), .bool false, .int .i64 (i : Int), .slice A xs.length c, .int .i64 ((xs.length : Nat) : Int), .bool true, z2 15]
def bools_same_l13 (A : Option Addr) (c : Nat) (A1 : Option Addr) (c1 : Nat) (xs : List (Bool)) (z2 : Nat → Value) (i : Nat) (B : Nat) (o : Nat) (B1 : Nat) (o1 : Nat) : List Value := [z2 16, .slice A xs.length c, .int .i64 (i : Int), .pointer (some ⟨B, o + i * 1, none⟩), .bool (xs[i]!), .slice A1 xs.length c1, .int .i64 (i : Int), .pointer (some ⟨B1, o1 + i * 1, none⟩), .bool (xs[i]!), .bool false]
def bools_same_b14 (A : Option Addr) (c : Nat) (A1 : Option Addr) (c1 : Nat) (xs : List (Bool)) (z2 : Nat → Value) (i : Nat) (B : Nat) (o : Nat) (B1 : Nat) (o1 : Nat) : List Value := (bools_same_l12 A c A1 c1 xs z2 i) ++ ((bools_same_l13 A c A1 c1 xs z2 i B o B1 o1))
set_option maxHeartbeats 8000000 in
set_option maxRecDepth 100000 in
theorem bools_same {w : World} {A A1 : Option Addr} {c c1 : Nat} {xs : List (Bool)} (h : Rd w (.slice A xs.length c) 1 encT4 xs) (h1 : Rd w (.slice A1 xs.length c1) 1 encT4 xs) (hl : xs.length ≤ 100000) : Calls Try.prog 12 #[.slice A xs.length c, .slice A1 xs.length c1] w fun e w' => e = .returned (.bool true) ∧ Below w.heap.size w w' := by
  obtain ⟨A', c', e0, hc, hA⟩ := id h
  cases e0
  obtain ⟨A', c', e0, hc1, hA1⟩ := id h1
  cases e0
  refine enter (args := [.slice A xs.length c, .slice A1 xs.length c1]) (fn := Try.f12) rfl (c := bdy Try.f12) (by kernel_rfl) ?_
  refine ck 7 [] [(5, .bool false)] fun γ1 => ⟨⟨kt (bdy Try.f12) [1, 1, 0, 1, 0] [], (bools_same_b2 A c A1 c1 xs), []⟩, [], [Value.bool ((((xs.length : Nat) : Int) : Int) != ((xs.length : Nat) : Int)) = .bool false], by kernel_rfl, (.cons (cnF (by omega)) .nil), ?_⟩
  refine lp (bools_same_2s A c A1 c1 xs) (bools_same_2F A c A1 c1 xs w) (bools_same_2k A c A1 c1 xs) (bools_same_2m A c A1 c1 xs) ((fun mm => ((bools_same_b2 A c A1 c1 xs)).getD mm zz, 0)) (kt (bdy Try.f12) [1, 1, 0, 1, 0] []) (Nat.zero_le _) rfl ?_
  rintro ⟨z2, i⟩ hok
  obtain hi : i ≤ xs.length := hok
  refine st1 (ktl [] (bools_same_2I A c A1 c1 xs w (z2, i)) (kt (bdy Try.f12) [1, 1, 0, 1, 0] [])) ((bools_same_b5 A c A1 c1 xs z2 i)) [] ?_
  by_cases hin : i < xs.length
  · skip
    obtain ⟨B, o, hAe, hat⟩ := hA.resolve_left (fun e => by rw [e] at hin; simp at hin)
    obtain ⟨B1, o1, hAe1, hat1⟩ := hA1.resolve_left (fun e => by rw [e] at hin; simp at hin)
    refine ck 4 [] [(3, .bool true)] fun γ3 => ⟨⟨ktl [1, 0, 0, 0] (bools_same_2I A c A1 c1 xs w (z2, i)) (kt (bdy Try.f12) [1, 1, 0, 1, 0] []), upv (bools_same_b5 A c A1 c1 xs z2 i) [(11, .int .i64 (i : Int)), (12, .slice A xs.length c), (13, .int .i64 ((xs.length : Nat) : Int)), (14, .bool true)], []⟩, [], [Value.bool (decide (((i : Int) : Int) < ((xs.length : Nat) : Int))) = .bool true], by kernel_rfl, (.cons (cbT (by omega)) .nil), ?_⟩
    refine dr [] [] .nil ?_
    refine df [0, 1, 4, 5] [] [] [] [] .nil ?_
    refine dixr 2 (n := xs.length) (sz := 1) (j := (i : Int)) hAe i (by omega) ?_
    refine dldr 3 (n := 1) (row := false) [.bool (xs[i]!)] (fun W hW => (hat.below (hW.old 0 rfl)).ld (i := i) (by omega) 0 [.bool (xs[i]!)] rfl) ?_
    refine dixr 6 (n := xs.length) (sz := 1) (j := (i : Int)) hAe1 i (by omega) ?_
    refine dldr 7 (n := 1) (row := false) [.bool (xs[i]!)] (fun W hW => (hat1.below (hW.old 0 rfl)).ld (i := i) (by omega) 0 [.bool (xs[i]!)] rfl) ?_
    refine df [8] [] [(8, .bool false)] [] [Value.bool (xs[i]! != xs[i]!) = .bool false] (.cons (by simp) .nil) ?_
    refine de (fs := (ktl [1, 0, 0, 0] (bools_same_2I A c A1 c1 xs w (z2, i)) (kt (bdy Try.f12) [1, 1, 0, 1, 0] [])).tail) ?_
    refine st0 (fs := (ktl [1, 0, 0, 0] (bools_same_2I A c A1 c1 xs w (z2, i)) (kt (bdy Try.f12) [1, 1, 0, 1, 0] [])).tail) ((bools_same_b14 A c A1 c1 xs z2 i B o B1 o1)) [] ?_
    refine ck 3 [] [(1, .int .i64 ((i + 1 : Nat) : Int))] fun γ4 => ⟨⟨ktp (bools_same_2I A c A1 c1 xs w (z2, i)) (kt (bdy Try.f12) [1, 1, 0, 1, 0] []), upv (bools_same_b14 A c A1 c1 xs z2 i B o B1 o1) [(5, .int .i64 ((i + 1 : Nat) : Int)), (15, .int .i64 (i : Int)), (16, .int .i64 ((i + 1 : Nat) : Int))], []⟩, [], [Value.int .i64 (IntKind.wrap .i64 ((i : Int) + 1)) = .int .i64 ((i + 1 : Nat) : Int)], by kernel_rfl, (.cons (congrArg (Value.int .i64) (w64 (by omega) (by omega))) .nil), ?_⟩
    exact nx (st := bools_same_2s A c A1 c1 xs) (F' := bools_same_2F A c A1 c1 xs w) (ok := bools_same_2k A c A1 c1 xs) (μ := bools_same_2m A c A1 c1 xs) (x := (z2, i)) (fun mm => (upv (bools_same_b14 A c A1 c1 xs z2 i B o B1 o1) [(5, .int .i64 ((i + 1 : Nat) : Int)), (15, .int .i64 (i : Int)), (16, .int .i64 ((i + 1 : Nat) : Int))]).getD mm zz, (i + 1)) (show (i + 1) ≤ xs.length from (show i + 1 ≤ xs.length by omega)) (by show _ < _; simp only [bools_same_2m]; omega) 0 0 rfl
  · skip
    refine ck 5 [] [(3, .bool false)] fun γ5 => ⟨⟨kt (bdy Try.f12) [1, 1, 1, 1] [], upv (bools_same_b5 A c A1 c1 xs z2 i) [(4, .bool true), (11, .int .i64 (i : Int)), (12, .slice A xs.length c), (13, .int .i64 ((xs.length : Nat) : Int)), (14, .bool false)], []⟩, [], [Value.bool (decide (((i : Int) : Int) < ((xs.length : Nat) : Int))) = .bool false], by kernel_rfl, (.cons (cbF (by omega)) .nil), ?_⟩
    refine rt (.bool true) [] [] (fun W hW => ?_)
    exact ⟨rfl, (hW.old 0 rfl)⟩
theorem bools_n {n : Nat} {w : World} {A A1 : Option Addr} {c c1 : Nat} {xs : List Bool} (hn : xs.length = n) (h : Rd w (.slice A n c) 1 encT4 xs) (h1 : Rd w (.slice A1 n c1) 1 encT4 xs) (hl : xs.length ≤ 100000) : Calls Try.prog 12 #[.slice A n c, .slice A1 n c1] w fun e w' => e = .returned (.bool true) ∧ Below w.heap.size w w' := by
  subst hn
  exact bools_same h h1 hl
theorem Rd.map {α β : Type} {w : World} {A : Option Addr} {n c sz : Nat} {enc : α → List Value} {enc2 : β → List Value} {l : List α} (h : Rd w (.slice A n c) sz enc l) (g : α → β) (hg : ∀ x, enc x = enc2 (g x)) : Rd w (.slice A n c) sz enc2 (l.map g) := by
  obtain ⟨A', c', e, hc, hA⟩ := h
  cases e
  refine ⟨A, c, by rw [List.length_map], by rw [List.length_map]; exact hc, ?_⟩
  rcases hA with rfl | ⟨B, o, rfl, hat⟩
  · exact .inl rfl
  · refine .inr ⟨B, o, rfl, hat.lt, fun i x hx j u hu => ?_⟩
    rw [List.getElem?_map] at hx
    obtain ⟨y, hy, rfl⟩ := Option.map_eq_some_iff.1 hx
    exact hat.cell i y hy j u (by rw [hg]; exact hu)
theorem Rd.few {α : Type} {w : World} {A : Option Addr} {c sz : Nat} {enc : α → List Value} {l : List α} (h : Rd w (.slice A l.length c) sz enc l) : Rd w (.slice A (min l.length 8) c) sz enc (l.take (min l.length 8)) := Rd.take h (Nat.min_le_left _ _)
end Go.Proofs.Ythcmcekjgecnhab.Sr
