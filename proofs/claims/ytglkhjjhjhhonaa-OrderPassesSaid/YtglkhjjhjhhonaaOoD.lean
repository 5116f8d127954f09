/- Few steps; New. No condition beside those that each theorem names. -/
import Derived.Test.YtglkhjjhjhhonaaOoC
import Derived.Test.YtglkhjjhjhhonaaMachF
namespace Go.Proofs.Ytglkhjjhjhhonaa.Sr
open Go.RowKit Go.Proofs.YtglkhjjhjhhonaaM.Mach
set_option linter.unusedVariables false
set_option linter.unusedSimpArgs false
theorem take_map_s {l : List AC} {i : Nat} (h : i < l.length) : (l.take (i + 1)).map cutA = (l.take i).map cutA ++ [cutA (l[i]!)] := by
  rw [List.take_succ_eq_append_getElem h, List.map_append, getElem!_pos l i h]
  rfl
def fl_l0 (A : Option Addr) (c : Nat) (l : List AC) : List Value := [.slice A l.length c, zz, .slice none 0 0, .slice none 0 0, .int .i64 0, zz, zz, zz, zz, zz, zz, zz, zz, zz, zz, zz]
def fl_l1 : List Value := [zz, zz, zz, zz, zz, zz, zz, zz, zz, zz, zz, zz, zz, zz, zz]
def fl_b2 (A : Option Addr) (c : Nat) (l : List AC) : List Value := (fl_l0 A c l) ++ (fl_l1)
def fl_l3 (A : Option Addr) (c : Nat) (l : List AC) (z2 : Nat → Value) (i : Nat) (Ao : Option Addr) (co : Nat) (ol : List AC) : List Value := [.slice A l.length c, zz, .slice none 0 0, .slice Ao ol.length co, .int .i64 (i : Int), z2 5, z2 6, z2 7, z2 8, z2 9, z2 10, z2 11, z2 12, z2 13, z2 14, z2 15]
def fl_l4 (z2 : Nat → Value) : List Value := [z2 16, z2 17, z2 18, z2 19, z2 20, z2 21, z2 22, z2 23, z2 24, z2 25, z2 26, z2 27, z2 28, z2 29, zz]
def fl_b5 (A : Option Addr) (c : Nat) (l : List AC) (z2 : Nat → Value) (i : Nat) (Ao : Option Addr) (co : Nat) (ol : List AC) : List Value := (fl_l3 A c l z2 i Ao co ol) ++ ((fl_l4 z2))
abbrev fl_2X := (Nat → Value) × Nat × (Option Addr) × Nat × (List AC)
def fl_2s (A : Option Addr) (c : Nat) (l : List AC) (x : fl_2X) : List Value × List Blk := ((fl_b5 A c l (x.1) (x.2.1) (x.2.2.1) (x.2.2.2.1) (x.2.2.2.2)), [])
def fl_2k (A : Option Addr) (c : Nat) (l : List AC) (x : fl_2X) : Prop := (x.2.2.2.2) = (l.take (x.2.1)).map cutA ∧ (x.2.1) ≤ l.length ∧ (x.2.1) ≤ 9
def fl_2m (A : Option Addr) (c : Nat) (l : List AC) (x : fl_2X) : Nat := 9 - (x.2.1)
def fl_2F (A : Option Addr) (c : Nat) (l : List AC) (w : World) (x : fl_2X) : List Asrt := [rowA 32 3 (.slice (x.2.2.1) (x.2.2.2.2).length (x.2.2.2.1)) (x.2.2.2.2).length ((x.2.2.2.2).flatMap encT32), old w]
abbrev fl_2I (A : Option Addr) (c : Nat) (l : List AC) (w : World) (x : fl_2X) : Act → World → Prop := Inv (fl_2s A c l) (fl_2F A c l w) (fl_2k A c l) (fl_2m A c l) x
def fl_c12 (l : List AC) (i : Nat) : List Value := [.int .i64 ((l[i]!).1), .slice ((l[i]!).2.1.1) (if 3 < (l[i]!).2.1.2.1 then 3 else (l[i]!).2.1.2.1) ((l[i]!).2.1.2.2), .slice ((l[i]!).2.2.1) (if 3 < (l[i]!).2.2.2.1 then 3 else (l[i]!).2.2.2.1) ((l[i]!).2.2.2.2)]
def fl_l13 (A : Option Addr) (c : Nat) (l : List AC) (z2 : Nat → Value) (i : Nat) (Ao : Option Addr) (co : Nat) (ol : List AC) (A5 : Option Addr) (c5 : Nat) : List Value := [.slice A l.length c, zz, .slice none 0 0, .slice A5 ((ol ++ [((l[i]!).1, ((l[i]!).2.1.1, (if 3 < (l[i]!).2.1.2.1 then 3 else (l[i]!).2.1.2.1), (l[i]!).2.1.2.2), ((l[i]!).2.2.1, (if 3 < (l[i]!).2.2.2.1 then 3 else (l[i]!).2.2.2.1), (l[i]!).2.2.2.2))]).length) c5, .int .i64 (i : Int), .int .i64 (i : Int), .slice A l.length c, .int .i64 ((l.length : Nat) : Int), .bool true, .bool true, .int .i64 (i : Int), .bool true, .bool true, z2 13, z2 14, .slice Ao ol.length co]
def fl_l14 (A : Option Addr) (c : Nat) (l : List AC) (i : Nat) (ol : List AC) (B : Nat) (o1 : Nat) (g4 : Nat) (A5 : Option Addr) (c5 : Nat) : List Value := [.slice A l.length c, .int .i64 (i : Int), .pointer (some ⟨B, o1 + i * 3, none⟩), .pointer (some ⟨B, o1 + i * 3, none⟩), .int .i64 ((l[i]!).1), .slice A l.length c, .int .i64 (i : Int), .pointer (some ⟨B, o1 + i * 3, none⟩), .pointer (some ⟨B, o1 + i * 3 + 1, none⟩), .agg #[.slice ((l[i]!).2.1.1) ((l[i]!).2.1.2.1) ((l[i]!).2.1.2.2), .slice ((l[i]!).2.2.1) ((l[i]!).2.2.2.1) ((l[i]!).2.2.2.2)], .agg #[.slice ((l[i]!).2.1.1) (if 3 < (l[i]!).2.1.2.1 then 3 else (l[i]!).2.1.2.1) ((l[i]!).2.1.2.2), .slice ((l[i]!).2.2.1) (if 3 < (l[i]!).2.2.2.1 then 3 else (l[i]!).2.2.2.1) ((l[i]!).2.2.2.2)], .agg #[.int .i64 ((l[i]!).1), .slice ((l[i]!).2.1.1) (if 3 < (l[i]!).2.1.2.1 then 3 else (l[i]!).2.1.2.1) ((l[i]!).2.1.2.2), .slice ((l[i]!).2.2.1) (if 3 < (l[i]!).2.2.2.1 then 3 else (l[i]!).2.2.2.1) ((l[i]!).2.2.2.2)], .slice (some ⟨g4, 0, none⟩) 1 1, .slice A5 ((ol ++ [((l[i]!).1, ((l[i]!).2.1.1, (if 3 < (l[i]!).2.1.2.1 then 3 else (l[i]!).2.1.2.1), (l[i]!).2.1.2.2), ((l[i]!).2.2.1, (if 3 < (l[i]!).2.2.2.1 then 3 else (l[i]!).2.2.2.1), (l[i]!).2.2.2.2))]).length) c5, zz]
def fl_b15 (A : Option Addr) (c : Nat) (l : List AC) (z2 : Nat → Value) (i : Nat) (Ao : Option Addr) (co : Nat) (ol : List AC) (B : Nat) (o1 : Nat) (g4 : Nat) (A5 : Option Addr) (c5 : Nat) : List Value := (fl_l13 A c l z2 i Ao co ol A5 c5) ++ ((fl_l14 A c l i ol B o1 g4 A5 c5))
set_option maxHeartbeats 8000000 in
set_option maxRecDepth 100000 in
theorem fewl_is {w : World} {A : Option Addr} {c : Nat} {l : List AC} (h : Rd w (.slice A l.length c) 3 encT32 l) (hcap : ∀ k, k < l.length → (l[k]!).2.1.2.1 ≤ (l[k]!).2.1.2.2 ∧ (l[k]!).2.2.2.1 ≤ (l[k]!).2.2.2.2) : Calls Try.prog 8 #[.slice A l.length c] w fun e w' => ∃ x : Option Addr × Nat, e = .returned (.slice x.1 ((l.take 9).map cutA).length x.2) ∧ Fresh w w' [rowA 32 3 (.slice x.1 ((l.take 9).map cutA).length x.2) ((l.take 9).map cutA).length (((l.take 9).map cutA).flatMap encT32)] := by
  refine enter (args := [.slice A l.length c]) (fn := Try.f8) rfl (c := bdy Try.f8) (by kernel_rfl) ?_
  refine ck 3 [] [] fun γ1 => ⟨⟨kt (bdy Try.f8) [1, 1, 0, 1, 0] [], (fl_b2 A c l), []⟩, [], [], by kernel_rfl, .nil, ?_⟩
  refine nilrow 32 3 ?_
  refine lp (fl_2s A c l) (fl_2F A c l w) (fl_2k A c l) (fl_2m A c l) ((fun mm => ((fl_b2 A c l)).getD mm zz, 0, none, 0, ([] : List AC))) (kt (bdy Try.f8) [1, 1, 0, 1, 0] []) ⟨rfl, Nat.zero_le _, Nat.zero_le _⟩ rfl ?_
  rintro ⟨z2, i, Ao, co, ol⟩ hok
  obtain ⟨hol, hi, hi9⟩ : ol = (l.take i).map cutA ∧ i ≤ l.length ∧ i ≤ 9 := hok
  refine st1 (ktl [] (fl_2I A c l w (z2, i, Ao, co, ol)) (kt (bdy Try.f8) [1, 1, 0, 1, 0] [])) ((fl_b5 A c l z2 i Ao co ol)) [] ?_
  have hoi : ol.length = i := by rw [hol, List.length_map, List.length_take]; omega
  have hq : (i < l.length ∧ i < 9) ∨ (i < l.length ∧ ¬ i < 9) ∨ ¬ i < l.length := by omega
  rcases hq with ⟨hil, hi5⟩ | ⟨hil, hi5⟩ | hil
  · skip
    obtain ⟨B, o1, hAe, hat⟩ := h.at (i := i) hil
    refine ck 8 [] [(3, .bool true), (6, .bool true)] fun γ3 => ⟨⟨ktl [1, 0, 0] (fl_2I A c l w (z2, i, Ao, co, ol)) (kt (bdy Try.f8) [1, 1, 0, 1, 0] []), upv (fl_b5 A c l z2 i Ao co ol) [(5, .int .i64 (i : Int)), (6, .slice A l.length c), (7, .int .i64 ((l.length : Nat) : Int)), (8, .bool true), (9, .bool true), (10, .int .i64 (i : Int)), (11, .bool true), (12, .bool true)], []⟩, [], [Value.bool (decide (((i : Int) : Int) < ((l.length : Nat) : Int))) = .bool true, Value.bool (decide (((i : Int) : Int) < 9)) = .bool true], by kernel_rfl, (.cons (cbT (by omega)) (.cons (cbT (by omega)) .nil)), ?_⟩
    refine drl [] [] .nil ?_
    refine df [0, 1, 2, 6, 7] [] [] [] [] .nil ?_
    refine dixr 3 (n := l.length) (sz := 3) (j := (i : Int)) hAe i (by omega) ?_
    refine df [4] [] [] [] [] .nil ?_
    refine dldr 5 (n := 1) (row := false) [.int .i64 ((l[i]!).1)] (fun W hW => (hat.below (hW.old 1 rfl)).ld (i := i) (by omega) 0 [.int .i64 ((l[i]!).1)] rfl) ?_
    refine dixr 8 (n := l.length) (sz := 3) (j := (i : Int)) hAe i (by omega) ?_
    refine df [9] [] [] [] [] .nil ?_
    refine dldr 10 (n := 2) (row := true) [.slice ((l[i]!).2.1.1) ((l[i]!).2.1.2.1) ((l[i]!).2.1.2.2), .slice ((l[i]!).2.2.1) ((l[i]!).2.2.2.1) ((l[i]!).2.2.2.2)] (fun W hW => (hat.below (hW.old 1 rfl)).ld (i := i) (by omega) 1 [.slice ((l[i]!).2.1.1) ((l[i]!).2.1.2.1) ((l[i]!).2.1.2.2), .slice ((l[i]!).2.2.1) ((l[i]!).2.2.2.1) ((l[i]!).2.2.2.2)] rfl) ?_
    refine dp 11 (fun W hW => few_is (A1 := ((l[i]!).2.1.1)) (n1 := ((l[i]!).2.1.2.1)) (c1 := ((l[i]!).2.1.2.2)) (A2 := ((l[i]!).2.2.1)) (n2 := ((l[i]!).2.2.2.1)) (c2 := ((l[i]!).2.2.2.2)) (hcap i (by omega)).1 (hcap i (by omega)).2) ?_
    refine df [12] [] [] [] [] .nil ?_
    refine dn 13 (v := fun g4 => .slice (some ⟨g4, 0, none⟩) 1 1) (b := fun g4 => (g4, 32, (fl_c12 l i))) (fun g L => by kernel_rfl) fun g4 => ?_
    refine dap (m := 1) (c := 1) (g := g4) (T := 32) (cs := [.int .i64 ((l[i]!).1), .slice ((l[i]!).2.1.1) (if 3 < (l[i]!).2.1.2.1 then 3 else (l[i]!).2.1.2.1) ((l[i]!).2.1.2.2), .slice ((l[i]!).2.2.1) (if 3 < (l[i]!).2.2.2.1 then 3 else (l[i]!).2.2.2.1) ((l[i]!).2.2.2.2)]) 14 0 0 56 rfl (by first | omega | (simp only [List.length_append, List.length_cons, List.length_nil]; omega)) (by simp only [maxLen]; first | omega | (simp only [List.length_append, List.length_cons, List.length_nil]; omega)) (ol ++ [((l[i]!).1, ((l[i]!).2.1.1, (if 3 < (l[i]!).2.1.2.1 then 3 else (l[i]!).2.1.2.1), (l[i]!).2.1.2.2), ((l[i]!).2.2.1, (if 3 < (l[i]!).2.2.2.1 then 3 else (l[i]!).2.2.2.1), (l[i]!).2.2.2.2))]).length ((ol ++ [((l[i]!).1, ((l[i]!).2.1.1, (if 3 < (l[i]!).2.1.2.1 then 3 else (l[i]!).2.1.2.1), (l[i]!).2.1.2.2), ((l[i]!).2.2.1, (if 3 < (l[i]!).2.2.2.1 then 3 else (l[i]!).2.2.2.1), (l[i]!).2.2.2.2))]).flatMap encT32) (by simp) (by simp [encT32]) fun A5 c5 => ?_
    refine del (fs := (ktl [1, 0, 0] (fl_2I A c l w (z2, i, Ao, co, ol)) (kt (bdy Try.f8) [1, 1, 0, 1, 0] [])).tail) (.slice A5 ((ol ++ [((l[i]!).1, ((l[i]!).2.1.1, (if 3 < (l[i]!).2.1.2.1 then 3 else (l[i]!).2.1.2.1), (l[i]!).2.1.2.2), ((l[i]!).2.2.1, (if 3 < (l[i]!).2.2.2.1 then 3 else (l[i]!).2.2.2.1), (l[i]!).2.2.2.2))]).length) c5) ?_
    refine st0 (fs := (ktl [1, 0, 0] (fl_2I A c l w (z2, i, Ao, co, ol)) (kt (bdy Try.f8) [1, 1, 0, 1, 0] [])).tail) ((fl_b15 A c l z2 i Ao co ol B o1 g4 A5 c5)) [(g4, 32, (fl_c12 l i))] ?_
    refine ck 3 [] [(1, .int .i64 ((i + 1 : Nat) : Int))] fun γ6 => ⟨⟨ktp (fl_2I A c l w (z2, i, Ao, co, ol)) (kt (bdy Try.f8) [1, 1, 0, 1, 0] []), upv (fl_b15 A c l z2 i Ao co ol B o1 g4 A5 c5) [(4, .int .i64 ((i + 1 : Nat) : Int)), (13, .int .i64 (i : Int)), (14, .int .i64 ((i + 1 : Nat) : Int))], [(g4, 32, (fl_c12 l i))]⟩, [], [Value.int .i64 (IntKind.wrap .i64 ((i : Int) + 1)) = .int .i64 ((i + 1 : Nat) : Int)], by kernel_rfl, (.cons (congrArg (Value.int .i64) (by rw [IntKind.wrap_i64]; omega)) .nil), ?_⟩
    exact nx (st := fl_2s A c l) (F' := fl_2F A c l w) (ok := fl_2k A c l) (μ := fl_2m A c l) (x := (z2, i, Ao, co, ol)) (fun mm => (upv (fl_b15 A c l z2 i Ao co ol B o1 g4 A5 c5) [(4, .int .i64 ((i + 1 : Nat) : Int)), (13, .int .i64 (i : Int)), (14, .int .i64 ((i + 1 : Nat) : Int))]).getD mm zz, (i + 1), A5, c5, ol ++ [((l[i]!).1, ((l[i]!).2.1.1, (if 3 < (l[i]!).2.1.2.1 then 3 else (l[i]!).2.1.2.1), (l[i]!).2.1.2.2), ((l[i]!).2.2.1, (if 3 < (l[i]!).2.2.2.1 then 3 else (l[i]!).2.2.2.1), (l[i]!).2.2.2.2))]) (show (ol ++ [((l[i]!).1, ((l[i]!).2.1.1, (if 3 < (l[i]!).2.1.2.1 then 3 else (l[i]!).2.1.2.1), (l[i]!).2.1.2.2), ((l[i]!).2.2.1, (if 3 < (l[i]!).2.2.2.1 then 3 else (l[i]!).2.2.2.1), (l[i]!).2.2.2.2))]) = (l.take (i + 1)).map cutA ∧ (i + 1) ≤ l.length ∧ (i + 1) ≤ 9 from ⟨by rw [take_map_s hil, ← hol]; rfl, by omega, by omega⟩) (by show _ < _; simp only [fl_2m]; omega) 1 0 rfl
  · skip
    refine ck 10 [] [(3, .bool true), (6, .bool false)] fun γ7 => ⟨⟨kt (bdy Try.f8) [1, 1, 1, 1] [], upv (fl_b5 A c l z2 i Ao co ol) [(2, .slice Ao ol.length co), (5, .int .i64 (i : Int)), (6, .slice A l.length c), (7, .int .i64 ((l.length : Nat) : Int)), (8, .bool true), (9, .bool true), (10, .int .i64 (i : Int)), (11, .bool false), (12, .bool false), (30, .slice Ao ol.length co)], []⟩, [], [Value.bool (decide (((i : Int) : Int) < ((l.length : Nat) : Int))) = .bool true, Value.bool (decide (((i : Int) : Int) < 9)) = .bool false], by kernel_rfl, (.cons (cbT (by omega)) (.cons (cbF (by omega)) .nil)), ?_⟩
    refine rt (.slice Ao ol.length co) [] [] (fun W hW => ?_)
    have hend : ol = (l.take 9).map cutA := by
      rw [hol]
      congr 1
      by_cases h9 : i = 9
      · rw [h9]
      · rw [List.take_of_length_le (by omega), List.take_of_length_le (by omega)]
    rw [← hend]
    exact ⟨(Ao, co), rfl, Fresh.of hW (.cons_cons _ (.cons_cons _ .slnil))⟩
  · skip
    refine ck 10 [] [(3, .bool false)] fun γ8 => ⟨⟨kt (bdy Try.f8) [1, 1, 1, 1] [], upv (fl_b5 A c l z2 i Ao co ol) [(2, .slice Ao ol.length co), (5, .int .i64 (i : Int)), (6, .slice A l.length c), (7, .int .i64 ((l.length : Nat) : Int)), (8, .bool false), (9, .bool false), (10, zz), (11, zz), (12, .bool false), (30, .slice Ao ol.length co)], []⟩, [], [Value.bool (decide (((i : Int) : Int) < ((l.length : Nat) : Int))) = .bool false], by kernel_rfl, (.cons (cbF (by omega)) .nil), ?_⟩
    refine rt (.slice Ao ol.length co) [] [] (fun W hW => ?_)
    have hend : ol = (l.take 9).map cutA := by
      rw [hol]
      congr 1
      by_cases h9 : i = 9
      · rw [h9]
      · rw [List.take_of_length_le (by omega), List.take_of_length_le (by omega)]
    rw [← hend]
    exact ⟨(Ao, co), rfl, Fresh.of hW (.cons_cons _ (.cons_cons _ .slnil))⟩
def no_l0 (th : Int) : List Value := [.int .i64 th, zz, .pointer none, .int .i64 th, zz, zz, zz]
def no_c1 (th : Int) : List Value := [.bool true, .int .i64 ((tN th : Nat) : Int), .slice none 0 0]
set_option maxHeartbeats 8000000 in
set_option maxRecDepth 100000 in
theorem newo_is (th : Int) (w : World) : Calls Try.prog 9 #[.int .i64 th] w fun e W => ∃ x : Nat, e = .returned (.pointer (some ⟨x, 0, none⟩)) ∧ Fresh w W [blkA (x, 49, [.bool true, .int .i64 ((tN th : Nat) : Int), .slice none 0 0])] := by
  refine enter (args := [.int .i64 th]) (fn := Try.f9) rfl (c := bdy Try.f9) (by kernel_rfl) ?_
  refine ck 2 [] [] fun γ1 => ⟨⟨kt (bdy Try.f9) [1, 0, 1] [], (no_l0 th), []⟩, [], [], by kernel_rfl, .nil, ?_⟩
  refine cp (fun W hW => clampt_is th W) ?_
  refine ck 3 [] [] fun γ2 => ⟨⟨kt (bdy Try.f9) [1, 1] [], upv (no_l0 th) [(2, .pointer (some ⟨γ2 1, 0, none⟩)), (4, .int .i64 ((tN th : Nat) : Int)), (5, .agg #[.bool true, .int .i64 ((tN th : Nat) : Int), .slice none 0 0]), (6, .pointer (some ⟨γ2 1, 0, none⟩))], [(γ2 1, 49, (no_c1 th))]⟩, [], [], by kernel_rfl, .nil, ?_⟩
  refine rtL (.pointer (some ⟨γ2 1, 0, none⟩)) [] [] ([(γ2 1, 49, (no_c1 th))]) (fun W hW => ?_)
  exact ⟨γ2 1, rfl, Fresh.of (R := [blkA (γ2 1, 49, (no_c1 th))]) (hW.ix [0, 1] (by decide) rfl) (List.Sublist.refl _)⟩
end Go.Proofs.Ytglkhjjhjhhonaa.Sr
