/- The insertion sort. No condition beside those that each theorem names. -/
import Derived.Test.YtglkhjjhjhhonaaFtH
import Derived.Test.YtglkhjjhjhhonaaMachC
namespace Go.Proofs.Ytglkhjjhjhhonaa.Sr
open Go.RowKit Go.Proofs.YtglkhjjhjhhonaaM.Mach
set_option linter.unusedVariables false
set_option linter.unusedSimpArgs false
def is_l0 (A : Option Addr) (n : Nat) (c : Nat) : List Value := [.slice A n c, .int .i64 0, .int .i64 ((n : Nat) : Int), .func (.func 49) #[] #[], zz, zz, zz, zz, .int .i64 1, zz, .int .i64 0, .int .i64 1, zz, zz, zz, zz]
def is_l1 : List Value := [zz, zz, zz, zz, zz, zz, zz, zz, zz, zz, zz, zz, zz, zz, zz, zz]
def is_l2 : List Value := [zz, zz, zz, zz, zz]
def is_b3 (A : Option Addr) (n : Nat) (c : Nat) : List Value := (is_l0 A n c) ++ (is_l1 ++ (is_l1 ++ (is_l2)))
def is_l4 (A : Option Addr) (n : Nat) (c : Nat) (z2 : Nat → Value) (i : Nat) : List Value := [.slice A n c, .int .i64 0, .int .i64 ((n : Nat) : Int), .func (.func 49) #[] #[], zz, zz, zz, zz, .int .i64 (i : Int), z2 9, .int .i64 0, .int .i64 1, z2 12, z2 13, z2 14, z2 15]
def is_l5 (z2 : Nat → Value) : List Value := [z2 16, z2 17, z2 18, z2 19, z2 20, z2 21, z2 22, z2 23, z2 24, z2 25, z2 26, z2 27, z2 28, z2 29, z2 30, z2 31]
def is_l6 (z2 : Nat → Value) : List Value := [z2 32, z2 33, z2 34, z2 35, z2 36, z2 37, z2 38, z2 39, z2 40, z2 41, z2 42, z2 43, z2 44, z2 45, z2 46, z2 47]
def is_l7 (z2 : Nat → Value) : List Value := [z2 48, z2 49, z2 50, z2 51, z2 52]
def is_b8 (A : Option Addr) (n : Nat) (c : Nat) (z2 : Nat → Value) (i : Nat) : List Value := (is_l4 A n c z2 i) ++ ((is_l5 z2) ++ ((is_l6 z2) ++ ((is_l7 z2))))
abbrev is_2X := (Nat → Value) × Nat × (List P3)
def is_2s (A : Option Addr) (n : Nat) (c : Nat) (ks0 : List P3) (x : is_2X) : List Value × List Blk := ((is_b8 A n c (x.1) (x.2.1)), [])
def is_2k (A : Option Addr) (n : Nat) (c : Nat) (ks0 : List P3) (x : is_2X) : Prop := SO ks0 (x.2.2) (x.2.1) ∧ (x.2.2).length = n ∧ 0 < (x.2.1)
def is_2m (A : Option Addr) (n : Nat) (c : Nat) (ks0 : List P3) (x : is_2X) : Nat := n - (x.2.1)
def is_2F (A : Option Addr) (n : Nat) (c : Nat) (ks0 : List P3) (w : World) (x : is_2X) : List Asrt := [rowA 67 3 (.slice A n c) n ((x.2.2).flatMap encT67), oldX w (.slice A n c)]
abbrev is_2I (A : Option Addr) (n : Nat) (c : Nat) (ks0 : List P3) (w : World) (x : is_2X) : Act → World → Prop := Inv (is_2s A n c ks0) (is_2F A n c ks0 w) (is_2k A n c ks0) (is_2m A n c ks0) x
def is_l15 (A : Option Addr) (n : Nat) (c : Nat) (z2 : Nat → Value) (i : Nat) (j : Nat) : List Value := [.slice A n c, .int .i64 0, .int .i64 ((n : Nat) : Int), .func (.func 49) #[] #[], zz, zz, zz, zz, .int .i64 (i : Int), .int .i64 (j : Int), .int .i64 0, .int .i64 1, .int .i64 (i : Int), .int .i64 ((n : Nat) : Int), .bool true, z2 15]
def is_l16 (z2 : Nat → Value) (i : Nat) (z4 : Nat → Value) : List Value := [z2 16, .int .i64 (i : Int), z4 18, z4 19, z4 20, z4 21, z4 22, z4 23, z4 24, z4 25, z4 26, z4 27, z4 28, z4 29, z4 30, z4 31]
def is_l17 (z4 : Nat → Value) : List Value := [z4 32, z4 33, z4 34, z4 35, z4 36, z4 37, z4 38, z4 39, z4 40, z4 41, z4 42, z4 43, z4 44, z4 45, z4 46, z4 47]
def is_l18 (z4 : Nat → Value) : List Value := [z4 48, z4 49, z4 50, z4 51, z4 52]
def is_b19 (A : Option Addr) (n : Nat) (c : Nat) (z2 : Nat → Value) (i : Nat) (z4 : Nat → Value) (j : Nat) : List Value := (is_l15 A n c z2 i j) ++ ((is_l16 z2 i z4) ++ ((is_l17 z4) ++ ((is_l18 z4))))
abbrev is_4X := (Nat → Value) × Nat × (List P3)
def is_4s (A : Option Addr) (n : Nat) (c : Nat) (ks0 : List P3) (z2 : Nat → Value) (i : Nat) (x : is_4X) : List Value × List Blk := ((is_b19 A n c z2 i (x.1) (x.2.1)), [])
def is_4k (A : Option Addr) (n : Nat) (c : Nat) (ks0 : List P3) (z2 : Nat → Value) (i : Nat) (x : is_4X) : Prop := SI ks0 (x.2.2) i (x.2.1) ∧ (x.2.2).length = n
def is_4m (A : Option Addr) (n : Nat) (c : Nat) (ks0 : List P3) (z2 : Nat → Value) (i : Nat) (x : is_4X) : Nat := (x.2.1)
def is_4F (A : Option Addr) (n : Nat) (c : Nat) (ks0 : List P3) (z2 : Nat → Value) (i : Nat) (w : World) (x : is_4X) : List Asrt := [rowA 67 3 (.slice A n c) n ((x.2.2).flatMap encT67), oldX w (.slice A n c)]
abbrev is_4I (A : Option Addr) (n : Nat) (c : Nat) (ks0 : List P3) (z2 : Nat → Value) (i : Nat) (w : World) (x : is_4X) : Act → World → Prop := Inv (is_4s A n c ks0 z2 i) (is_4F A n c ks0 z2 i w) (is_4k A n c ks0 z2 i) (is_4m A n c ks0 z2 i) x
def is_l26 (A : Option Addr) (n : Nat) (c : Nat) (z2 : Nat → Value) (i : Nat) : List Value := [.slice A n c, .int .i64 0, .int .i64 ((n : Nat) : Int), .func (.func 49) #[] #[], zz, zz, zz, zz, .int .i64 (i : Int), .int .i64 (i : Int), .int .i64 0, .int .i64 1, .int .i64 (i : Int), .int .i64 ((n : Nat) : Int), .bool true, z2 15]
def is_l27 (z2 : Nat → Value) (i : Nat) : List Value := [z2 16, .int .i64 (i : Int), z2 18, z2 19, z2 20, z2 21, z2 22, z2 23, z2 24, z2 25, z2 26, z2 27, z2 28, z2 29, z2 30, z2 31]
def is_b28 (A : Option Addr) (n : Nat) (c : Nat) (z2 : Nat → Value) (i : Nat) : List Value := (is_l26 A n c z2 i) ++ ((is_l27 z2 i) ++ ((is_l6 z2) ++ ((is_l7 z2))))
def is_l29 (z2 : Nat → Value) (i : Nat) (j : Nat) : List Value := [z2 16, .int .i64 (i : Int), .int .i64 (j : Int), .int .i64 0, .bool false, .bool false, zz, zz, zz, zz, zz, zz, zz, zz, zz, zz]
def is_l30 (z4 : Nat → Value) : List Value := [zz, zz, .bool false, z4 35, z4 36, z4 37, z4 38, z4 39, z4 40, z4 41, z4 42, z4 43, z4 44, z4 45, z4 46, z4 47]
def is_b31 (A : Option Addr) (n : Nat) (c : Nat) (z2 : Nat → Value) (i : Nat) (z4 : Nat → Value) (j : Nat) : List Value := (is_l15 A n c z2 i j) ++ ((is_l29 z2 i j) ++ ((is_l30 z4) ++ ((is_l18 z4))))
def is_l32 (A : Option Addr) (n : Nat) (c : Nat) (z2 : Nat → Value) (i : Nat) (g : Nat) (j : Nat) (ks2 : List P3) (m : Nat) : List Value := [z2 16, .int .i64 (i : Int), .int .i64 (j : Int), .int .i64 0, .bool true, .bool true, .func (.func 49) #[] #[], .slice A n c, .int .i64 (j : Int), .pointer (some ⟨g, 0 + j * 3, none⟩), .agg #[.int .i64 ((ks2[j]!).1), .int .i64 ((ks2[j]!).2.1), .int .i64 ((ks2[j]!).2.2)], .slice A n c, .int .i64 (j : Int), .int .i64 ((m : Nat) : Int), .pointer (some ⟨g, 0 + m * 3, none⟩), .agg #[.int .i64 ((ks2[m]!).1), .int .i64 ((ks2[m]!).2.1), .int .i64 ((ks2[m]!).2.2)]]
def is_l33 (z4 : Nat → Value) (j : Nat) (ks2 : List P3) (m : Nat) : List Value := [.int .i64 (ordF ks2[j]! ks2[m]!), .bool true, .bool true, z4 35, z4 36, z4 37, z4 38, z4 39, z4 40, z4 41, z4 42, z4 43, z4 44, z4 45, z4 46, z4 47]
def is_b34 (A : Option Addr) (n : Nat) (c : Nat) (z2 : Nat → Value) (i : Nat) (g : Nat) (z4 : Nat → Value) (j : Nat) (ks2 : List P3) (m : Nat) : List Value := (is_l15 A n c z2 i j) ++ ((is_l32 A n c z2 i g j ks2 m) ++ ((is_l33 z4 j ks2 m) ++ ((is_l18 z4))))
def is_l35 (A : Option Addr) (n : Nat) (c : Nat) (g : Nat) (z4 : Nat → Value) (j : Nat) (ks2 : List P3) (m : Nat) : List Value := [.int .i64 (ordF ks2[j]! ks2[m]!), .bool true, .bool true, z4 35, z4 36, .slice A n c, .int .i64 (j : Int), .slice A n c, .int .i64 (j : Int), .int .i64 ((m : Nat) : Int), .slice A n c, .int .i64 (j : Int), .int .i64 ((m : Nat) : Int), .pointer (some ⟨g, 0 + m * 3, none⟩), .agg #[.int .i64 ((ks2[m]!).1), .int .i64 ((ks2[m]!).2.1), .int .i64 ((ks2[m]!).2.2)], .slice A n c]
def is_l36 (g : Nat) (j : Nat) (ks2 : List P3) (m : Nat) : List Value := [.int .i64 (j : Int), .pointer (some ⟨g, 0 + j * 3, none⟩), .agg #[.int .i64 ((ks2[j]!).1), .int .i64 ((ks2[j]!).2.1), .int .i64 ((ks2[j]!).2.2)], .pointer (some ⟨g, 0 + j * 3, none⟩), .pointer (some ⟨g, 0 + m * 3, none⟩)]
def is_b37 (A : Option Addr) (n : Nat) (c : Nat) (z2 : Nat → Value) (i : Nat) (g : Nat) (z4 : Nat → Value) (j : Nat) (ks2 : List P3) (m : Nat) : List Value := (is_l15 A n c z2 i j) ++ ((is_l32 A n c z2 i g j ks2 m) ++ ((is_l35 A n c g z4 j ks2 m) ++ ((is_l36 g j ks2 m))))
def is_l38 (z4 : Nat → Value) (j : Nat) (ks2 : List P3) (m : Nat) : List Value := [.int .i64 (ordF ks2[j]! ks2[m]!), .bool false, .bool false, z4 35, z4 36, z4 37, z4 38, z4 39, z4 40, z4 41, z4 42, z4 43, z4 44, z4 45, z4 46, z4 47]
def is_b39 (A : Option Addr) (n : Nat) (c : Nat) (z2 : Nat → Value) (i : Nat) (g : Nat) (z4 : Nat → Value) (j : Nat) (ks2 : List P3) (m : Nat) : List Value := (is_l15 A n c z2 i j) ++ ((is_l32 A n c z2 i g j ks2 m) ++ ((is_l38 z4 j ks2 m) ++ ((is_l18 z4))))
set_option maxHeartbeats 8000000 in
set_option maxRecDepth 100000 in
theorem isort_is {w : World} {A : Option Addr} {n c : Nat} {ks0 : List P3} (hlen : ks0.length = n) (hn : n ≤ 1000) (hown : ownR w 67 3 (.slice A n c) n (ks0.flatMap encT67)) : Calls Try.prog 77 #[.slice A n c, .int .i64 0, .int .i64 ((n : Nat) : Int), .func (.func 49) #[] #[]] w fun e w' => ∃ x : {ks : List P3 // ks.length = n ∧ ks0.Perm ks ∧ ∀ p q, p < q → q < n → ltP ks[q]! ks[p]! = false}, e = .returned (.tuple #[]) ∧ Turned (.slice A n c) w w' ∧ ownR w' 67 3 (.slice A n c) n (x.1.flatMap encT67) := by
  refine enterX (args := [.slice A n c, .int .i64 0, .int .i64 ((n : Nat) : Int), .func (.func 49) #[] #[]]) (fn := Try.f77) rfl (c := bdy Try.f77) (by kernel_rfl) hown ?_
  refine ck 3 [] [] fun γ1 => ⟨⟨kt (bdy Try.f77) [1, 0] [], (is_b3 A n c), []⟩, [], [], by kernel_rfl, .nil, ?_⟩
  refine lp (is_2s A n c ks0) (is_2F A n c ks0 w) (is_2k A n c ks0) (is_2m A n c ks0) ((fun mm => ((is_b3 A n c)).getD mm zz, 1, ks0)) (kt (bdy Try.f77) [1, 0] []) ⟨⟨List.Perm.refl _, fun p q h1 h2 _ => by have h2b : q < 1 := h2; omega⟩, hlen, Nat.zero_lt_one⟩ rfl ?_
  rintro ⟨z2, i, ks⟩ hok
  obtain ⟨hS, hkl, hi0⟩ : SO ks0 ks i ∧ ks.length = n ∧ 0 < i := hok
  refine st1 (ktl [] (is_2I A n c ks0 w (z2, i, ks)) (kt (bdy Try.f77) [1, 0] [])) ((is_b8 A n c z2 i)) [] ?_
  by_cases hin : i < n
  · skip
    refine shp 0 rfl fun A' c' e' hc' hz' hl' => ?_
    cases e'
    obtain ⟨g, hg⟩ := hz'.resolve_left (by omega)
    clear hl'
    refine ck 5 [] [(2, .bool true)] fun γ3 => ⟨⟨ktl [1, 0, 0, 1, 0] (is_2I A n c ks0 w (z2, i, ks)) (kt (bdy Try.f77) [1, 0] []), upv (is_b8 A n c z2 i) [(9, .int .i64 (i : Int)), (12, .int .i64 (i : Int)), (13, .int .i64 ((n : Nat) : Int)), (14, .bool true), (17, .int .i64 (i : Int))], []⟩, [], [Value.bool (decide (((i : Int) : Int) < ((n : Nat) : Int))) = .bool true], by kernel_rfl, (.cons (cbT (by omega)) .nil), ?_⟩
    refine lp (is_4s A n c ks0 z2 i) (is_4F A n c ks0 z2 i w) (is_4k A n c ks0 z2 i) (is_4m A n c ks0 z2 i) ((fun mm => ((is_b28 A n c z2 i)).getD mm zz, i, ks)) (ktl [1, 0, 0, 1, 0] (is_2I A n c ks0 w (z2, i, ks)) (kt (bdy Try.f77) [1, 0] [])) ⟨si_start hS (show i < ks.length by omega), hkl⟩ rfl ?_
    rintro ⟨z4, j, ks2⟩ hok
    obtain ⟨hI, hkl2⟩ : SI ks0 ks2 i j ∧ ks2.length = n := hok
    refine st1 (ktl [] (is_4I A n c ks0 z2 i w (z4, j, ks2)) (ktl [1, 0, 0, 1, 0] (is_2I A n c ks0 w (z2, i, ks)) (kt (bdy Try.f77) [1, 0] []))) ((is_b19 A n c z2 i z4 j)) [] ?_
    have hji := hI.le
    have hq : j = 0 ∨ (0 < j ∧ ltP ks2[j]! ks2[j - 1]! = true) ∨ (0 < j ∧ ltP ks2[j]! ks2[j - 1]! = false) := by
      by_cases h0 : j = 0
      · exact .inl h0
      · cases h9 : ltP ks2[j]! ks2[j - 1]!
        · exact .inr (.inr ⟨by omega, rfl⟩)
        · exact .inr (.inl ⟨by omega, rfl⟩)
    rcases hq with hq | hq | hq
    · skip
      have hex : j = 0 ∨ ltP ks2[j]! ks2[j - 1]! = false := .inl hq
      refine dr [] [] .nil ?_
      refine df [0, 1, 2, 3, 4, 5, 6, 7, 8, 9, 10, 11, 12, 13, 14, 15, 16] [] [(2, .bool false)] [] [Value.bool (decide (((j : Int) : Int) > 0)) = .bool false] (.cons (cbF (by omega)) .nil) ?_
      refine de (fs := (ktl [0, 0] (is_4I A n c ks0 z2 i w (z4, j, ks2)) (ktl [1, 0, 0, 1, 0] (is_2I A n c ks0 w (z2, i, ks)) (kt (bdy Try.f77) [1, 0] []))).tail) ?_
      refine st0 (fs := (ktl [0, 0] (is_4I A n c ks0 z2 i w (z4, j, ks2)) (ktl [1, 0, 0, 1, 0] (is_2I A n c ks0 w (z2, i, ks)) (kt (bdy Try.f77) [1, 0] []))).tail) ((is_b31 A n c z2 i z4 j)) [] ?_
      refine ck 3 [] [(1, .int .i64 ((i + 1 : Nat) : Int))] fun γ5 => ⟨⟨ktp (is_2I A n c ks0 w (z2, i, ks)) (kt (bdy Try.f77) [1, 0] []), upv (is_b31 A n c z2 i z4 j) [(8, .int .i64 ((i + 1 : Nat) : Int)), (15, .int .i64 (i : Int)), (16, .int .i64 ((i + 1 : Nat) : Int))], []⟩, [], [Value.int .i64 (IntKind.wrap .i64 ((i : Int) + 1)) = .int .i64 ((i + 1 : Nat) : Int)], by kernel_rfl, (.cons (congrArg (Value.int .i64) (by rw [IntKind.wrap_i64]; omega)) .nil), ?_⟩
      exact nx (st := is_2s A n c ks0) (F' := is_2F A n c ks0 w) (ok := is_2k A n c ks0) (μ := is_2m A n c ks0) (x := (z2, i, ks)) (fun mm => (upv (is_b31 A n c z2 i z4 j) [(8, .int .i64 ((i + 1 : Nat) : Int)), (15, .int .i64 (i : Int)), (16, .int .i64 ((i + 1 : Nat) : Int))]).getD mm zz, (i + 1), ks2) (show SO ks0 ks2 (i + 1) ∧ ks2.length = n ∧ 0 < (i + 1) from ⟨si_end hI hex, hkl2, by omega⟩) (by show _ < _; simp only [is_2m]; omega) 0 0 rfl
    · skip
      obtain ⟨m, hj⟩ : ∃ m, j = m + 1 := ⟨j - 1, by omega⟩
      have hm : j - 1 = m := by omega
      have hlt := hq.2
      have hord : ordF ks2[j]! ks2[m]! < 0 := by rw [hm] at hlt; unfold ordF; rw [hlt, if_pos rfl]; decide
      refine dr [] [] .nil ?_
      refine df [0, 1, 2, 3, 4, 5, 6, 9, 10, 11] [] [(2, .bool true), (11, .int .i64 ((m : Nat) : Int))] [] [Value.bool (decide (((j : Int) : Int) > 0)) = .bool true, Value.int .i64 (IntKind.wrap .i64 ((j : Int) - 1)) = .int .i64 ((m : Nat) : Int)] (.cons (cbT (by omega)) (.cons (congrArg (Value.int .i64) (by rw [IntKind.wrap_i64]; omega)) .nil)) ?_
      refine dixr 7 (n := n) (sz := 3) (j := (j : Int)) hg j (by omega) ?_
      refine dldr 8 (n := 3) (row := true) [.int .i64 ((ks2[j]!).1), .int .i64 ((ks2[j]!).2.1), .int .i64 ((ks2[j]!).2.2)] (fun W hW => ((Rd.atE (own_rdn encT67_len (l := ks2) (by first | omega | (simp only [List.length_set]; omega) | simp) (hW.at 0 rfl)) hg (by omega))).ld (i := j) (by omega) 0 [.int .i64 ((ks2[j]!).1), .int .i64 ((ks2[j]!).2.1), .int .i64 ((ks2[j]!).2.2)] rfl) ?_
      refine dixr 12 (n := n) (sz := 3) (j := ((m : Nat) : Int)) hg m (by omega) ?_
      refine dldr 13 (n := 3) (row := true) [.int .i64 ((ks2[m]!).1), .int .i64 ((ks2[m]!).2.1), .int .i64 ((ks2[m]!).2.2)] (fun W hW => ((Rd.atE (own_rdn encT67_len (l := ks2) (by first | omega | (simp only [List.length_set]; omega) | simp) (hW.at 0 rfl)) hg (by omega))).ld (i := m) (by omega) 0 [.int .i64 ((ks2[m]!).1), .int .i64 ((ks2[m]!).2.1), .int .i64 ((ks2[m]!).2.2)] rfl) ?_
      refine dp 14 (fun W hW => order_is ((ks2[j]!).1) ((ks2[j]!).2.1) ((ks2[j]!).2.2) ((ks2[m]!).1) ((ks2[m]!).2.1) ((ks2[m]!).2.2) W) ?_
      refine df [15, 16] [] [(15, .bool true)] [] [Value.bool (decide (((ordF ks2[j]! ks2[m]!) : Int) < 0)) = .bool true] (.cons (cbT hord) .nil) ?_
      refine de (fs := (ktl [0, 0] (is_4I A n c ks0 z2 i w (z4, j, ks2)) (ktl [1, 0, 0, 1, 0] (is_2I A n c ks0 w (z2, i, ks)) (kt (bdy Try.f77) [1, 0] []))).tail) ?_
      refine st0 (fs := (ktl [0, 0] (is_4I A n c ks0 z2 i w (z4, j, ks2)) (ktl [1, 0, 0, 1, 0] (is_2I A n c ks0 w (z2, i, ks)) (kt (bdy Try.f77) [1, 0] []))).tail) ((is_b34 A n c z2 i g z4 j ks2 m)) [] ?_
      refine dr [] [] .nil ?_
      refine df [0, 1, 2, 3, 4, 5, 6, 7, 10, 11] [] [(4, .int .i64 ((m : Nat) : Int)), (7, .int .i64 ((m : Nat) : Int))] [] [Value.int .i64 (IntKind.wrap .i64 ((j : Int) - 1)) = .int .i64 ((m : Nat) : Int), Value.int .i64 (IntKind.wrap .i64 ((j : Int) - 1)) = .int .i64 ((m : Nat) : Int)] (.cons (congrArg (Value.int .i64) (by rw [IntKind.wrap_i64]; omega)) (.cons (congrArg (Value.int .i64) (by rw [IntKind.wrap_i64]; omega)) .nil)) ?_
      refine dixr 8 (n := n) (sz := 3) (j := ((m : Nat) : Int)) hg m (by omega) ?_
      refine dldr 9 (n := 3) (row := true) [.int .i64 ((ks2[m]!).1), .int .i64 ((ks2[m]!).2.1), .int .i64 ((ks2[m]!).2.2)] (fun W hW => ((Rd.atE (own_rdn encT67_len (l := ks2) (by first | omega | (simp only [List.length_set]; omega) | simp) (hW.at 0 rfl)) hg (by omega))).ld (i := m) (by omega) 0 [.int .i64 ((ks2[m]!).1), .int .i64 ((ks2[m]!).2.1), .int .i64 ((ks2[m]!).2.2)] rfl) ?_
      refine dixr 12 (n := n) (sz := 3) (j := (j : Int)) hg j (by omega) ?_
      refine dldr 13 (n := 3) (row := true) [.int .i64 ((ks2[j]!).1), .int .i64 ((ks2[j]!).2.1), .int .i64 ((ks2[j]!).2.2)] (fun W hW => ((Rd.atE (own_rdn encT67_len (l := ks2) (by first | omega | (simp only [List.length_set]; omega) | simp) (hW.at 0 rfl)) hg (by omega))).ld (i := j) (by omega) 0 [.int .i64 ((ks2[j]!).1), .int .i64 ((ks2[j]!).2.1), .int .i64 ((ks2[j]!).2.2)] rfl) ?_
      refine dixr 14 (n := n) (sz := 3) (j := (j : Int)) hg j (by omega) ?_
      refine dsto 15 0 (off := 0 + j * 3) (xs := ks2.flatMap encT67) (vs := [.int .i64 ((ks2[m]!).1), .int .i64 ((ks2[m]!).2.1), .int .i64 ((ks2[m]!).2.2)]) hg rfl (by omega) (by first | (simp only [List.length_cons, List.length_nil, flat_len encT67_len, List.length_set]; omega) | simp) ((ks2.set j ((ks2[m]!).1, (ks2[m]!).2.1, (ks2[m]!).2.2)).flatMap encT67) (by rw [Nat.zero_add]; exact flat_set encT67_len _ _ ((ks2[m]!).1, (ks2[m]!).2.1, (ks2[m]!).2.2) (by first | omega | (simp only [List.length_set]; omega))) ?_
      refine dixr 16 (n := n) (sz := 3) (j := ((m : Nat) : Int)) hg m (by omega) ?_
      refine dsto 17 0 (off := 0 + m * 3) (xs := (ks2.set j ((ks2[m]!).1, (ks2[m]!).2.1, (ks2[m]!).2.2)).flatMap encT67) (vs := [.int .i64 ((ks2[j]!).1), .int .i64 ((ks2[j]!).2.1), .int .i64 ((ks2[j]!).2.2)]) hg rfl (by omega) (by first | (simp only [List.length_cons, List.length_nil, flat_len encT67_len, List.length_set]; omega) | simp) (((ks2.set j ((ks2[m]!).1, (ks2[m]!).2.1, (ks2[m]!).2.2)).set m ((ks2[j]!).1, (ks2[j]!).2.1, (ks2[j]!).2.2)).flatMap encT67) (by rw [Nat.zero_add]; exact flat_set encT67_len _ _ ((ks2[j]!).1, (ks2[j]!).2.1, (ks2[j]!).2.2) (by first | omega | (simp only [List.length_set]; omega))) ?_
      refine de (fs := (ktl [1, 0, 0] (is_4I A n c ks0 z2 i w (z4, j, ks2)) (ktl [1, 0, 0, 1, 0] (is_2I A n c ks0 w (z2, i, ks)) (kt (bdy Try.f77) [1, 0] []))).tail) ?_
      refine st0 (fs := (ktl [1, 0, 0] (is_4I A n c ks0 z2 i w (z4, j, ks2)) (ktl [1, 0, 0, 1, 0] (is_2I A n c ks0 w (z2, i, ks)) (kt (bdy Try.f77) [1, 0] []))).tail) ((is_b37 A n c z2 i g z4 j ks2 m)) [] ?_
      refine ck 3 [] [(1, .int .i64 ((m : Nat) : Int))] fun γ6 => ⟨⟨ktp (is_4I A n c ks0 z2 i w (z4, j, ks2)) (ktl [1, 0, 0, 1, 0] (is_2I A n c ks0 w (z2, i, ks)) (kt (bdy Try.f77) [1, 0] [])), upv (is_b37 A n c z2 i g z4 j ks2 m) [(9, .int .i64 ((m : Nat) : Int)), (35, .int .i64 (j : Int)), (36, .int .i64 ((m : Nat) : Int))], []⟩, [], [Value.int .i64 (IntKind.wrap .i64 ((j : Int) - 1)) = .int .i64 ((m : Nat) : Int)], by kernel_rfl, (.cons (congrArg (Value.int .i64) (by rw [IntKind.wrap_i64]; omega)) .nil), ?_⟩
      exact nx (st := is_4s A n c ks0 z2 i) (F' := is_4F A n c ks0 z2 i w) (ok := is_4k A n c ks0 z2 i) (μ := is_4m A n c ks0 z2 i) (x := (z4, j, ks2)) (fun mm => (upv (is_b37 A n c z2 i g z4 j ks2 m) [(9, .int .i64 ((m : Nat) : Int)), (35, .int .i64 (j : Int)), (36, .int .i64 ((m : Nat) : Int))]).getD mm zz, m, ((ks2.set j ((ks2[m]!).1, (ks2[m]!).2.1, (ks2[m]!).2.2)).set m ((ks2[j]!).1, (ks2[j]!).2.1, (ks2[j]!).2.2))) (show SI ks0 ((ks2.set j ((ks2[m]!).1, (ks2[m]!).2.1, (ks2[m]!).2.2)).set m ((ks2[j]!).1, (ks2[j]!).2.1, (ks2[j]!).2.2)) i m ∧ ((ks2.set j ((ks2[m]!).1, (ks2[m]!).2.1, (ks2[m]!).2.2)).set m ((ks2[j]!).1, (ks2[j]!).2.1, (ks2[j]!).2.2)).length = n from ⟨by have h9 := si_step hI (by omega) hlt; unfold swp at h9; rw [hm] at h9; exact h9, by simp only [List.length_set]; exact hkl2⟩) (by show _ < _; simp only [is_4m]; omega) 0 0 rfl
    · skip
      obtain ⟨m, hj⟩ : ∃ m, j = m + 1 := ⟨j - 1, by omega⟩
      have hm : j - 1 = m := by omega
      have hex : j = 0 ∨ ltP ks2[j]! ks2[j - 1]! = false := .inr hq.2
      have hord : ¬ ordF ks2[j]! ks2[m]! < 0 := by have h9 := hq.2; rw [hm] at h9; unfold ordF; rw [h9, if_neg (by decide)]; split <;> decide
      refine dr [] [] .nil ?_
      refine df [0, 1, 2, 3, 4, 5, 6, 9, 10, 11] [] [(2, .bool true), (11, .int .i64 ((m : Nat) : Int))] [] [Value.bool (decide (((j : Int) : Int) > 0)) = .bool true, Value.int .i64 (IntKind.wrap .i64 ((j : Int) - 1)) = .int .i64 ((m : Nat) : Int)] (.cons (cbT (by omega)) (.cons (congrArg (Value.int .i64) (by rw [IntKind.wrap_i64]; omega)) .nil)) ?_
      refine dixr 7 (n := n) (sz := 3) (j := (j : Int)) hg j (by omega) ?_
      refine dldr 8 (n := 3) (row := true) [.int .i64 ((ks2[j]!).1), .int .i64 ((ks2[j]!).2.1), .int .i64 ((ks2[j]!).2.2)] (fun W hW => ((Rd.atE (own_rdn encT67_len (l := ks2) (by first | omega | (simp only [List.length_set]; omega) | simp) (hW.at 0 rfl)) hg (by omega))).ld (i := j) (by omega) 0 [.int .i64 ((ks2[j]!).1), .int .i64 ((ks2[j]!).2.1), .int .i64 ((ks2[j]!).2.2)] rfl) ?_
      refine dixr 12 (n := n) (sz := 3) (j := ((m : Nat) : Int)) hg m (by omega) ?_
      refine dldr 13 (n := 3) (row := true) [.int .i64 ((ks2[m]!).1), .int .i64 ((ks2[m]!).2.1), .int .i64 ((ks2[m]!).2.2)] (fun W hW => ((Rd.atE (own_rdn encT67_len (l := ks2) (by first | omega | (simp only [List.length_set]; omega) | simp) (hW.at 0 rfl)) hg (by omega))).ld (i := m) (by omega) 0 [.int .i64 ((ks2[m]!).1), .int .i64 ((ks2[m]!).2.1), .int .i64 ((ks2[m]!).2.2)] rfl) ?_
      refine dp 14 (fun W hW => order_is ((ks2[j]!).1) ((ks2[j]!).2.1) ((ks2[j]!).2.2) ((ks2[m]!).1) ((ks2[m]!).2.1) ((ks2[m]!).2.2) W) ?_
      refine df [15, 16] [] [(15, .bool false)] [] [Value.bool (decide (((ordF ks2[j]! ks2[m]!) : Int) < 0)) = .bool false] (.cons (cbF hord) .nil) ?_
      refine de (fs := (ktl [0, 0] (is_4I A n c ks0 z2 i w (z4, j, ks2)) (ktl [1, 0, 0, 1, 0] (is_2I A n c ks0 w (z2, i, ks)) (kt (bdy Try.f77) [1, 0] []))).tail) ?_
      refine st0 (fs := (ktl [0, 0] (is_4I A n c ks0 z2 i w (z4, j, ks2)) (ktl [1, 0, 0, 1, 0] (is_2I A n c ks0 w (z2, i, ks)) (kt (bdy Try.f77) [1, 0] []))).tail) ((is_b39 A n c z2 i g z4 j ks2 m)) [] ?_
      refine ck 3 [] [(1, .int .i64 ((i + 1 : Nat) : Int))] fun γ7 => ⟨⟨ktp (is_2I A n c ks0 w (z2, i, ks)) (kt (bdy Try.f77) [1, 0] []), upv (is_b39 A n c z2 i g z4 j ks2 m) [(8, .int .i64 ((i + 1 : Nat) : Int)), (15, .int .i64 (i : Int)), (16, .int .i64 ((i + 1 : Nat) : Int))], []⟩, [], [Value.int .i64 (IntKind.wrap .i64 ((i : Int) + 1)) = .int .i64 ((i + 1 : Nat) : Int)], by kernel_rfl, (.cons (congrArg (Value.int .i64) (by rw [IntKind.wrap_i64]; omega)) .nil), ?_⟩
      exact nx (st := is_2s A n c ks0) (F' := is_2F A n c ks0 w) (ok := is_2k A n c ks0) (μ := is_2m A n c ks0) (x := (z2, i, ks)) (fun mm => (upv (is_b39 A n c z2 i g z4 j ks2 m) [(8, .int .i64 ((i + 1 : Nat) : Int)), (15, .int .i64 (i : Int)), (16, .int .i64 ((i + 1 : Nat) : Int))]).getD mm zz, (i + 1), ks2) (show SO ks0 ks2 (i + 1) ∧ ks2.length = n ∧ 0 < (i + 1) from ⟨si_end hI hex, hkl2, by omega⟩) (by show _ < _; simp only [is_2m]; omega) 0 0 rfl
  · skip
    refine ck 3 [] [(2, .bool false)] fun γ8 => ⟨⟨[], upv (is_b8 A n c z2 i) [(12, .int .i64 (i : Int)), (13, .int .i64 ((n : Nat) : Int)), (14, .bool false)], []⟩, [], [Value.bool (decide (((i : Int) : Int) < ((n : Nat) : Int))) = .bool false], by kernel_rfl, (.cons (cbF (by omega)) .nil), ?_⟩
    refine rt (.tuple #[]) [] [] (fun W hW => ?_)
    exact ⟨⟨ks, hkl, hS.perm, fun p q h1 h2 => hS.srt p q h1 (by omega) (by omega)⟩, rfl, hW.at 1 rfl, hW.at 0 rfl⟩
end Go.Proofs.Ytglkhjjhjhhonaa.Sr
