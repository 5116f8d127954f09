/- What is told of both. No condition beside those that each theorem names. -/
import Derived.Test.YtbijkflfphppgaaAyS
namespace Go.Proofs.Ytbijkflfphppgaa.Sr
open Go.RowKit Go.Proofs.YtbijkflfphppgaaM.Mach
set_option linter.unusedVariables false
set_option linter.unusedSimpArgs false
def STA (cl : List C10) : Prop := ∀ i, i < cl.length → (cl[i]!).1 = 0 ∨ (cl[i]!).1 = 1 ∨ (cl[i]!).1 = 2
theorem sta_z (n : Nat) : STA (clz n) := by
  intro i hi
  rw [clz_len] at hi
  left
  rw [getElem!_pos (clz n) i (by rw [clz_len]; exact hi)]
  simp [clz]
theorem sta_set {cl : List C10} (h : STA cl) {j : Nat} (v : C10) (hv : v.1 = 0 ∨ v.1 = 1 ∨ v.1 = 2) : STA (cl.set j v) := by
  intro i hi
  have hi' : i < cl.length := by simpa using hi
  rw [get_set_ite v hi']
  split
  · exact hv
  · exact h i hi'
theorem sta_at {cl : List C10} (h : STA cl) {cell : Int} (hc : thr cl cell) : (cellAt cl cell).1 = 0 ∨ (cellAt cl cell).1 = 1 ∨ (cellAt cl cell).1 = 2 := h _ (by unfold thr at hc; omega)
theorem sta_step {cl : List C10} {rl : List Int} (h : STA cl) (o : O8) : STA (stepO o cl rl).1 := by
  unfold stepO stepA
  split
  · split
    · exact sta_set h _ (.inl rfl)
    · exact h
  · split
    · split
      · exact sta_set h _ (.inr (.inr rfl))
      · exact h
    · split
      · split
        · rename_i hc
          exact sta_set h _ (sta_at h hc.1)
        · split
          · rename_i hc
            exact sta_set h _ (sta_at h hc.1)
          · exact h
      · cases rl with
        | nil => exact h
        | cons r rest => exact sta_set h _ (.inr (.inl rfl))
def findF (cl : List C10) (cell gen : Int) : Int := if thr cl cell then (if (cellAt cl cell).1 = 0 ∨ (cellAt cl cell).2.1 ≠ gen then 1 else 1 + (cellAt cl cell).1) else 0
theorem mk_s {mk : Int} {m : Nat} (h : mk = (m : Int)) (hm : m < 1000) (d : Bool) : mkOf mk d = ((m + d.toNat : Nat) : Int) := by
  subst h
  cases d
  · simp [mkOf]
  · simp only [mkOf, if_true, Bool.toNat_true]
    rw [IntKind.wrap_i64]
    omega
def ldF (cl : List C10) (cell f : Int) : (Int × Int × Int) × Bool :=
  if thr cl cell ∧ f = 0 then (((cellAt cl cell).2.2.2.2.1, (cellAt cl cell).2.2.2.2.2.1, (cellAt cl cell).2.2.2.2.2.2.1), true)
  else if thr cl cell ∧ f = 1 then (((cellAt cl cell).2.2.2.2.2.2.2.1, (cellAt cl cell).2.2.2.2.2.2.2.2.1, (cellAt cl cell).2.2.2.2.2.2.2.2.2), true)
  else ((0, 0, 0), false)
abbrev cparts (g gc n : Nat) (At : Option Addr) (ct : Nat) (tl : List H12) (cl : List C10) (Ar : Option Addr) (nr cr : Nat) : List Asrt := [blkA (g, 63, [.slice At tl.length ct, .bool true, .slice (some ⟨gc, 0, none⟩) n n, .slice Ar nr cr]), rowA 43 10 (.slice (some ⟨gc, 0, none⟩) n n) n (cl.flatMap encT43)]
theorem word_eq (d : Nat) (a b c : Int) (W : World) : (Op.equalIn (d + 2) 36 (.agg #[.int .i64 a, .int .i64 b, .int .i64 c]) (.agg #[.int .i64 a, .int .i64 b, .int .i64 c])).run Try.prog W = .ok true W := by
  go_simp
theorem arr_eq (a4 a5 a6 a7 a8 a9 : Int) (W : World) : (Op.equalIn 9999 41 (.agg #[.int .i64 a4, .int .i64 a5, .int .i64 a6, .int .i64 a7, .int .i64 a8, .int .i64 a9]) (.agg #[.int .i64 a4, .int .i64 a5, .int .i64 a6, .int .i64 a7, .int .i64 a8, .int .i64 a9])).run Try.prog W = .ok true W := by
  have p0 : ∀ W, (part 36 #[.int .i64 a4, .int .i64 a5, .int .i64 a6, .int .i64 a7, .int .i64 a8, .int .i64 a9] 0).run Try.prog W = .ok (.agg #[.int .i64 a4, .int .i64 a5, .int .i64 a6]) W := fun W => by kernel_rfl
  have p1 : ∀ W, (part 36 #[.int .i64 a4, .int .i64 a5, .int .i64 a6, .int .i64 a7, .int .i64 a8, .int .i64 a9] 3).run Try.prog W = .ok (.agg #[.int .i64 a7, .int .i64 a8, .int .i64 a9]) W := fun W => by kernel_rfl
  have hs : ∀ W, (sizeOf 36).run Try.prog W = .ok 3 W := fun W => by kernel_rfl
  have hu : ∀ W, (underlying 41).run Try.prog W = .ok (.array 2 36) W := fun W => by kernel_rfl
  show (Op.equalIn (9998 + 1) 41 _ _).run Try.prog W = _
  unfold Op.equalIn
  rw [Sem.run_bind, hu, Result.andThen_ok]
  simp only [Sem.run_bind, hs, Result.andThen_ok]
  simp [Std.Legacy.Range.forIn_eq_forIn_range', Std.Legacy.Range.size, List.range', Sem.run_bind, p0, p1, word_eq 9996]
theorem eq43s (a0 a1 a2 a3 a4 a5 a6 a7 a8 a9 : Int) (W : World) : (Op.equal 43 (.agg #[.int .i64 a0, .int .i64 a1, .int .i64 a2, .int .i64 a3, .int .i64 a4, .int .i64 a5, .int .i64 a6, .int .i64 a7, .int .i64 a8, .int .i64 a9]) (.agg #[.int .i64 a0, .int .i64 a1, .int .i64 a2, .int .i64 a3, .int .i64 a4, .int .i64 a5, .int .i64 a6, .int .i64 a7, .int .i64 a8, .int .i64 a9])).run Try.prog W = .ok true W := by
  show (Op.equalIn (9995 + 5) 43 _ _).run Try.prog W = _
  go_simp
  rw [arr_eq]
  simp [Result.andThen]
def same_i0_l0 (A : Option Addr) (c : Nat) (A1 : Option Addr) (c1 : Nat) (xs : List (Int)) : List Value := [.slice A xs.length c, .slice A1 xs.length c1, zz, zz, .bool false, .int .i64 0, .slice A xs.length c, .int .i64 ((xs.length : Nat) : Int), .slice A1 xs.length c1, .int .i64 ((xs.length : Nat) : Int), .bool false, zz, zz, zz, zz, zz]
def same_i0_l1 : List Value := [zz, zz, zz, zz, zz, zz, zz, zz, zz, zz]
def same_i0_b2 (A : Option Addr) (c : Nat) (A1 : Option Addr) (c1 : Nat) (xs : List (Int)) : List Value := (same_i0_l0 A c A1 c1 xs) ++ (same_i0_l1)
def same_i0_l3 (A : Option Addr) (c : Nat) (A1 : Option Addr) (c1 : Nat) (xs : List (Int)) (z2 : Nat → Value) (i : Nat) : List Value := [.slice A xs.length c, .slice A1 xs.length c1, zz, zz, z2 4, .int .i64 (i : Int), .slice A xs.length c, .int .i64 ((xs.length : Nat) : Int), .slice A1 xs.length c1, .int .i64 ((xs.length : Nat) : Int), .bool false, z2 11, z2 12, z2 13, z2 14, z2 15]
def same_i0_l4 (z2 : Nat → Value) : List Value := [z2 16, z2 17, z2 18, z2 19, z2 20, z2 21, z2 22, z2 23, z2 24, z2 25]
def same_i0_b5 (A : Option Addr) (c : Nat) (A1 : Option Addr) (c1 : Nat) (xs : List (Int)) (z2 : Nat → Value) (i : Nat) : List Value := (same_i0_l3 A c A1 c1 xs z2 i) ++ ((same_i0_l4 z2))
abbrev same_i0_2X := (Nat → Value) × Nat
def same_i0_2s (A : Option Addr) (c : Nat) (A1 : Option Addr) (c1 : Nat) (xs : List (Int)) (x : same_i0_2X) : List Value × List Blk := ((same_i0_b5 A c A1 c1 xs (x.1) (x.2)), [])
def same_i0_2k (A : Option Addr) (c : Nat) (A1 : Option Addr) (c1 : Nat) (xs : List (Int)) (x : same_i0_2X) : Prop := (x.2) ≤ xs.length
def same_i0_2m (A : Option Addr) (c : Nat) (A1 : Option Addr) (c1 : Nat) (xs : List (Int)) (x : same_i0_2X) : Nat := xs.length - (x.2)
def same_i0_2F (A : Option Addr) (c : Nat) (A1 : Option Addr) (c1 : Nat) (xs : List (Int)) (w : World) (x : same_i0_2X) : List Asrt := [old w]
abbrev same_i0_2I (A : Option Addr) (c : Nat) (A1 : Option Addr) (c1 : Nat) (xs : List (Int)) (w : World) (x : same_i0_2X) : Act → World → Prop := Inv (same_i0_2s A c A1 c1 xs) (same_i0_2F A c A1 c1 xs w) (same_i0_2k A c A1 c1 xs) (same_i0_2m A c A1 c1 xs) x
def same_i0_l12 (A : Option Addr) (c : Nat) (A1 : Option Addr) (c1 : Nat) (xs : List (Int)) (z2 : Nat → Value) (i : Nat) : List Value := [.slice A xs.length c, .slice A1 xs.length c1, zz, zz, z2 4, .int .i64 (i : Int), .slice A xs.length c, .int .i64 ((xs.length : Nat) : Int), .slice A1 xs.length c1, .int .i64 ((xs.length : Nat) : Int), .bool false, .int .i64 (i : Int), .slice A xs.length c, .int .i64 ((xs.length : Nat) : Int), .bool true, z2 15]
def same_i0_l13 (A : Option Addr) (c : Nat) (A1 : Option Addr) (c1 : Nat) (xs : List (Int)) (z2 : Nat → Value) (i : Nat) (B : Nat) (o : Nat) (B1 : Nat) (o1 : Nat) : List Value := [z2 16, .slice A xs.length c, .int .i64 (i : Int), .pointer (some ⟨B, o + i * 1, none⟩), .int .i64 (xs[i]!), .slice A1 xs.length c1, .int .i64 (i : Int), .pointer (some ⟨B1, o1 + i * 1, none⟩), .int .i64 (xs[i]!), .bool false]
def same_i0_b14 (A : Option Addr) (c : Nat) (A1 : Option Addr) (c1 : Nat) (xs : List (Int)) (z2 : Nat → Value) (i : Nat) (B : Nat) (o : Nat) (B1 : Nat) (o1 : Nat) : List Value := (same_i0_l12 A c A1 c1 xs z2 i) ++ ((same_i0_l13 A c A1 c1 xs z2 i B o B1 o1))
set_option maxHeartbeats 8000000 in
set_option maxRecDepth 100000 in
theorem same_i0 {w : World} {A A1 : Option Addr} {c c1 : Nat} {xs : List (Int)} (h : Rd w (.slice A xs.length c) 1 encT3 xs) (h1 : Rd w (.slice A1 xs.length c1) 1 encT3 xs) (hl : xs.length ≤ 100000) : Calls Try.prog 36 #[.slice A xs.length c, .slice A1 xs.length c1] w fun e w' => e = .returned (.bool true) ∧ Below w.heap.size w w' := by
  obtain ⟨A', c', e0, hc, hA⟩ := id h
  cases e0
  obtain ⟨A', c', e0, hc1, hA1⟩ := id h1
  cases e0
  refine enter (args := [.slice A xs.length c, .slice A1 xs.length c1]) (fn := Try.f36) rfl (c := bdy Try.f36) (by kernel_rfl) ?_
  refine ck 7 [] [(5, .bool false)] fun γ1 => ⟨⟨kt (bdy Try.f36) [1, 1, 0, 1, 0] [], (same_i0_b2 A c A1 c1 xs), []⟩, [], [Value.bool ((((xs.length : Nat) : Int) : Int) != ((xs.length : Nat) : Int)) = .bool false], by kernel_rfl, (.cons (cnF (by omega)) .nil), ?_⟩
  refine lp (same_i0_2s A c A1 c1 xs) (same_i0_2F A c A1 c1 xs w) (same_i0_2k A c A1 c1 xs) (same_i0_2m A c A1 c1 xs) ((fun mm => ((same_i0_b2 A c A1 c1 xs)).getD mm zz, 0)) (kt (bdy Try.f36) [1, 1, 0, 1, 0] []) (Nat.zero_le _) rfl ?_
  rintro ⟨z2, i⟩ hok
  obtain hi : i ≤ xs.length := hok
  refine st1 (ktl [] (same_i0_2I A c A1 c1 xs w (z2, i)) (kt (bdy Try.f36) [1, 1, 0, 1, 0] [])) ((same_i0_b5 A c A1 c1 xs z2 i)) [] ?_
  by_cases hin : i < xs.length
  · skip
    obtain ⟨B, o, hAe, hat⟩ := hA.resolve_left (fun e => by rw [e] at hin; simp at hin)
    obtain ⟨B1, o1, hAe1, hat1⟩ := hA1.resolve_left (fun e => by rw [e] at hin; simp at hin)
    refine ck 4 [] [(3, .bool true)] fun γ3 => ⟨⟨ktl [1, 0, 0, 0] (same_i0_2I A c A1 c1 xs w (z2, i)) (kt (bdy Try.f36) [1, 1, 0, 1, 0] []), upv (same_i0_b5 A c A1 c1 xs z2 i) [(11, .int .i64 (i : Int)), (12, .slice A xs.length c), (13, .int .i64 ((xs.length : Nat) : Int)), (14, .bool true)], []⟩, [], [Value.bool (decide (((i : Int) : Int) < ((xs.length : Nat) : Int))) = .bool true], by kernel_rfl, (.cons (cbT (by omega)) .nil), ?_⟩
    refine dr [] [] .nil ?_
    refine df [0, 1, 4, 5] [] [] [] [] .nil ?_
    refine dixr 2 (n := xs.length) (sz := 1) (j := (i : Int)) hAe i (by omega) ?_
    refine dldr 3 (n := 1) (row := false) [.int .i64 (xs[i]!)] (fun W hW => (hat.below (hW.old 0 rfl)).ld (i := i) (by omega) 0 [.int .i64 (xs[i]!)] rfl) ?_
    refine dixr 6 (n := xs.length) (sz := 1) (j := (i : Int)) hAe1 i (by omega) ?_
    refine dldr 7 (n := 1) (row := false) [.int .i64 (xs[i]!)] (fun W hW => (hat1.below (hW.old 0 rfl)).ld (i := i) (by omega) 0 [.int .i64 (xs[i]!)] rfl) ?_
    refine df [8] [] [(8, .bool false)] [] [Value.bool (((xs[i]!) : Int) != (xs[i]!)) = .bool false] (.cons (cnF (by omega)) .nil) ?_
    refine de (fs := (ktl [1, 0, 0, 0] (same_i0_2I A c A1 c1 xs w (z2, i)) (kt (bdy Try.f36) [1, 1, 0, 1, 0] [])).tail) ?_
    refine st0 (fs := (ktl [1, 0, 0, 0] (same_i0_2I A c A1 c1 xs w (z2, i)) (kt (bdy Try.f36) [1, 1, 0, 1, 0] [])).tail) ((same_i0_b14 A c A1 c1 xs z2 i B o B1 o1)) [] ?_
    refine ck 3 [] [(1, .int .i64 ((i + 1 : Nat) : Int))] fun γ4 => ⟨⟨ktp (same_i0_2I A c A1 c1 xs w (z2, i)) (kt (bdy Try.f36) [1, 1, 0, 1, 0] []), upv (same_i0_b14 A c A1 c1 xs z2 i B o B1 o1) [(5, .int .i64 ((i + 1 : Nat) : Int)), (15, .int .i64 (i : Int)), (16, .int .i64 ((i + 1 : Nat) : Int))], []⟩, [], [Value.int .i64 (IntKind.wrap .i64 ((i : Int) + 1)) = .int .i64 ((i + 1 : Nat) : Int)], by kernel_rfl, (.cons (congrArg (Value.int .i64) (w64 (by omega) (by omega))) .nil), ?_⟩
    exact nx (st := same_i0_2s A c A1 c1 xs) (F' := same_i0_2F A c A1 c1 xs w) (ok := same_i0_2k A c A1 c1 xs) (μ := same_i0_2m A c A1 c1 xs) (x := (z2, i)) (fun mm => (upv (same_i0_b14 A c A1 c1 xs z2 i B o B1 o1) [(5, .int .i64 ((i + 1 : Nat) : Int)), (15, .int .i64 (i : Int)), (16, .int .i64 ((i + 1 : Nat) : Int))]).getD mm zz, (i + 1)) (show (i + 1) ≤ xs.length from (show i + 1 ≤ xs.length by omega)) (by show _ < _; simp only [same_i0_2m]; omega) 0 0 rfl
  · skip
    refine ck 5 [] [(3, .bool false)] fun γ5 => ⟨⟨kt (bdy Try.f36) [1, 1, 1, 1] [], upv (same_i0_b5 A c A1 c1 xs z2 i) [(4, .bool true), (11, .int .i64 (i : Int)), (12, .slice A xs.length c), (13, .int .i64 ((xs.length : Nat) : Int)), (14, .bool false)], []⟩, [], [Value.bool (decide (((i : Int) : Int) < ((xs.length : Nat) : Int))) = .bool false], by kernel_rfl, (.cons (cbF (by omega)) .nil), ?_⟩
    refine rt (.bool true) [] [] (fun W hW => ?_)
    exact ⟨rfl, (hW.old 0 rfl)⟩
theorem same_i {w : World} {A A1 : Option Addr} {c c1 n : Nat} {xs : List (Int)} (hn : xs.length = n) (h : Rd w (.slice A n c) 1 encT3 xs) (h1 : Rd w (.slice A1 n c1) 1 encT3 xs) (hl : n ≤ 1000) : Calls Try.prog 36 #[.slice A n c, .slice A1 n c1] w fun e w' => e = .returned (.bool true) ∧ Below w.heap.size w w' := by
  subst hn
  exact same_i0 h h1 (by omega)
def same_c0_l0 (A : Option Addr) (c : Nat) (A1 : Option Addr) (c1 : Nat) (xs : List (C10)) : List Value := [.slice A xs.length c, .slice A1 xs.length c1, zz, zz, .bool false, .int .i64 0, .slice A xs.length c, .int .i64 ((xs.length : Nat) : Int), .slice A1 xs.length c1, .int .i64 ((xs.length : Nat) : Int), .bool false, zz, zz, zz, zz, zz]
def same_c0_l1 : List Value := [zz, zz, zz, zz, zz, zz, zz, zz, zz, zz]
def same_c0_b2 (A : Option Addr) (c : Nat) (A1 : Option Addr) (c1 : Nat) (xs : List (C10)) : List Value := (same_c0_l0 A c A1 c1 xs) ++ (same_c0_l1)
def same_c0_l3 (A : Option Addr) (c : Nat) (A1 : Option Addr) (c1 : Nat) (xs : List (C10)) (z2 : Nat → Value) (i : Nat) : List Value := [.slice A xs.length c, .slice A1 xs.length c1, zz, zz, z2 4, .int .i64 (i : Int), .slice A xs.length c, .int .i64 ((xs.length : Nat) : Int), .slice A1 xs.length c1, .int .i64 ((xs.length : Nat) : Int), .bool false, z2 11, z2 12, z2 13, z2 14, z2 15]
def same_c0_l4 (z2 : Nat → Value) : List Value := [z2 16, z2 17, z2 18, z2 19, z2 20, z2 21, z2 22, z2 23, z2 24, z2 25]
def same_c0_b5 (A : Option Addr) (c : Nat) (A1 : Option Addr) (c1 : Nat) (xs : List (C10)) (z2 : Nat → Value) (i : Nat) : List Value := (same_c0_l3 A c A1 c1 xs z2 i) ++ ((same_c0_l4 z2))
abbrev same_c0_2X := (Nat → Value) × Nat
def same_c0_2s (A : Option Addr) (c : Nat) (A1 : Option Addr) (c1 : Nat) (xs : List (C10)) (x : same_c0_2X) : List Value × List Blk := ((same_c0_b5 A c A1 c1 xs (x.1) (x.2)), [])
def same_c0_2k (A : Option Addr) (c : Nat) (A1 : Option Addr) (c1 : Nat) (xs : List (C10)) (x : same_c0_2X) : Prop := (x.2) ≤ xs.length
def same_c0_2m (A : Option Addr) (c : Nat) (A1 : Option Addr) (c1 : Nat) (xs : List (C10)) (x : same_c0_2X) : Nat := xs.length - (x.2)
def same_c0_2F (A : Option Addr) (c : Nat) (A1 : Option Addr) (c1 : Nat) (xs : List (C10)) (w : World) (x : same_c0_2X) : List Asrt := [old w]
abbrev same_c0_2I (A : Option Addr) (c : Nat) (A1 : Option Addr) (c1 : Nat) (xs : List (C10)) (w : World) (x : same_c0_2X) : Act → World → Prop := Inv (same_c0_2s A c A1 c1 xs) (same_c0_2F A c A1 c1 xs w) (same_c0_2k A c A1 c1 xs) (same_c0_2m A c A1 c1 xs) x
def same_c0_c12 (xs : List (C10)) (i : Nat) : List Value := [.int .i64 ((xs[i]!).1), .int .i64 ((xs[i]!).2.1), .int .i64 ((xs[i]!).2.2.1), .int .i64 ((xs[i]!).2.2.2.1), .int .i64 ((xs[i]!).2.2.2.2.1), .int .i64 ((xs[i]!).2.2.2.2.2.1), .int .i64 ((xs[i]!).2.2.2.2.2.2.1), .int .i64 ((xs[i]!).2.2.2.2.2.2.2.1), .int .i64 ((xs[i]!).2.2.2.2.2.2.2.2.1), .int .i64 ((xs[i]!).2.2.2.2.2.2.2.2.2)]
def same_c0_l13 (A : Option Addr) (c : Nat) (A1 : Option Addr) (c1 : Nat) (xs : List (C10)) (z2 : Nat → Value) (i : Nat) : List Value := [.slice A xs.length c, .slice A1 xs.length c1, zz, zz, z2 4, .int .i64 (i : Int), .slice A xs.length c, .int .i64 ((xs.length : Nat) : Int), .slice A1 xs.length c1, .int .i64 ((xs.length : Nat) : Int), .bool false, .int .i64 (i : Int), .slice A xs.length c, .int .i64 ((xs.length : Nat) : Int), .bool true, z2 15]
def same_c0_l14 (A : Option Addr) (c : Nat) (A1 : Option Addr) (c1 : Nat) (xs : List (C10)) (z2 : Nat → Value) (i : Nat) (B : Nat) (o : Nat) (B1 : Nat) (o1 : Nat) : List Value := [z2 16, .slice A xs.length c, .int .i64 (i : Int), .pointer (some ⟨B, o + i * 10, none⟩), .agg ⟨(same_c0_c12 xs i)⟩, .slice A1 xs.length c1, .int .i64 (i : Int), .pointer (some ⟨B1, o1 + i * 10, none⟩), .agg ⟨(same_c0_c12 xs i)⟩, .bool false]
def same_c0_b15 (A : Option Addr) (c : Nat) (A1 : Option Addr) (c1 : Nat) (xs : List (C10)) (z2 : Nat → Value) (i : Nat) (B : Nat) (o : Nat) (B1 : Nat) (o1 : Nat) : List Value := (same_c0_l13 A c A1 c1 xs z2 i) ++ ((same_c0_l14 A c A1 c1 xs z2 i B o B1 o1))
set_option maxHeartbeats 8000000 in
set_option maxRecDepth 100000 in
theorem same_c0 {w : World} {A A1 : Option Addr} {c c1 : Nat} {xs : List (C10)} (h : Rd w (.slice A xs.length c) 10 encT43 xs) (h1 : Rd w (.slice A1 xs.length c1) 10 encT43 xs) (hl : xs.length ≤ 100000) : Calls Try.prog 35 #[.slice A xs.length c, .slice A1 xs.length c1] w fun e w' => e = .returned (.bool true) ∧ Below w.heap.size w w' := by
  obtain ⟨A', c', e0, hc, hA⟩ := id h
  cases e0
  obtain ⟨A', c', e0, hc1, hA1⟩ := id h1
  cases e0
  refine enter (args := [.slice A xs.length c, .slice A1 xs.length c1]) (fn := Try.f35) rfl (c := bdy Try.f35) (by kernel_rfl) ?_
  refine ck 7 [] [(5, .bool false)] fun γ1 => ⟨⟨kt (bdy Try.f35) [1, 1, 0, 1, 0] [], (same_c0_b2 A c A1 c1 xs), []⟩, [], [Value.bool ((((xs.length : Nat) : Int) : Int) != ((xs.length : Nat) : Int)) = .bool false], by kernel_rfl, (.cons (cnF (by omega)) .nil), ?_⟩
  refine lp (same_c0_2s A c A1 c1 xs) (same_c0_2F A c A1 c1 xs w) (same_c0_2k A c A1 c1 xs) (same_c0_2m A c A1 c1 xs) ((fun mm => ((same_c0_b2 A c A1 c1 xs)).getD mm zz, 0)) (kt (bdy Try.f35) [1, 1, 0, 1, 0] []) (Nat.zero_le _) rfl ?_
  rintro ⟨z2, i⟩ hok
  obtain hi : i ≤ xs.length := hok
  refine st1 (ktl [] (same_c0_2I A c A1 c1 xs w (z2, i)) (kt (bdy Try.f35) [1, 1, 0, 1, 0] [])) ((same_c0_b5 A c A1 c1 xs z2 i)) [] ?_
  by_cases hin : i < xs.length
  · skip
    obtain ⟨B, o, hAe, hat⟩ := hA.resolve_left (fun e => by rw [e] at hin; simp at hin)
    obtain ⟨B1, o1, hAe1, hat1⟩ := hA1.resolve_left (fun e => by rw [e] at hin; simp at hin)
    refine ck 4 [] [(3, .bool true)] fun γ3 => ⟨⟨ktl [1, 0, 0, 0] (same_c0_2I A c A1 c1 xs w (z2, i)) (kt (bdy Try.f35) [1, 1, 0, 1, 0] []), upv (same_c0_b5 A c A1 c1 xs z2 i) [(11, .int .i64 (i : Int)), (12, .slice A xs.length c), (13, .int .i64 ((xs.length : Nat) : Int)), (14, .bool true)], []⟩, [], [Value.bool (decide (((i : Int) : Int) < ((xs.length : Nat) : Int))) = .bool true], by kernel_rfl, (.cons (cbT (by omega)) .nil), ?_⟩
    refine dr [] [] .nil ?_
    refine df [0, 1, 4, 5] [] [] [] [] .nil ?_
    refine dixr 2 (n := xs.length) (sz := 10) (j := (i : Int)) hAe i (by omega) ?_
    refine dldr 3 (n := 10) (row := true) [.int .i64 ((xs[i]!).1), .int .i64 ((xs[i]!).2.1), .int .i64 ((xs[i]!).2.2.1), .int .i64 ((xs[i]!).2.2.2.1), .int .i64 ((xs[i]!).2.2.2.2.1), .int .i64 ((xs[i]!).2.2.2.2.2.1), .int .i64 ((xs[i]!).2.2.2.2.2.2.1), .int .i64 ((xs[i]!).2.2.2.2.2.2.2.1), .int .i64 ((xs[i]!).2.2.2.2.2.2.2.2.1), .int .i64 ((xs[i]!).2.2.2.2.2.2.2.2.2)] (fun W hW => (hat.below (hW.old 0 rfl)).ld (i := i) (by omega) 0 [.int .i64 ((xs[i]!).1), .int .i64 ((xs[i]!).2.1), .int .i64 ((xs[i]!).2.2.1), .int .i64 ((xs[i]!).2.2.2.1), .int .i64 ((xs[i]!).2.2.2.2.1), .int .i64 ((xs[i]!).2.2.2.2.2.1), .int .i64 ((xs[i]!).2.2.2.2.2.2.1), .int .i64 ((xs[i]!).2.2.2.2.2.2.2.1), .int .i64 ((xs[i]!).2.2.2.2.2.2.2.2.1), .int .i64 ((xs[i]!).2.2.2.2.2.2.2.2.2)] rfl) ?_
    refine dixr 6 (n := xs.length) (sz := 10) (j := (i : Int)) hAe1 i (by omega) ?_
    refine dldr 7 (n := 10) (row := true) [.int .i64 ((xs[i]!).1), .int .i64 ((xs[i]!).2.1), .int .i64 ((xs[i]!).2.2.1), .int .i64 ((xs[i]!).2.2.2.1), .int .i64 ((xs[i]!).2.2.2.2.1), .int .i64 ((xs[i]!).2.2.2.2.2.1), .int .i64 ((xs[i]!).2.2.2.2.2.2.1), .int .i64 ((xs[i]!).2.2.2.2.2.2.2.1), .int .i64 ((xs[i]!).2.2.2.2.2.2.2.2.1), .int .i64 ((xs[i]!).2.2.2.2.2.2.2.2.2)] (fun W hW => (hat1.below (hW.old 0 rfl)).ld (i := i) (by omega) 0 [.int .i64 ((xs[i]!).1), .int .i64 ((xs[i]!).2.1), .int .i64 ((xs[i]!).2.2.1), .int .i64 ((xs[i]!).2.2.2.1), .int .i64 ((xs[i]!).2.2.2.2.1), .int .i64 ((xs[i]!).2.2.2.2.2.1), .int .i64 ((xs[i]!).2.2.2.2.2.2.1), .int .i64 ((xs[i]!).2.2.2.2.2.2.2.1), .int .i64 ((xs[i]!).2.2.2.2.2.2.2.2.1), .int .i64 ((xs[i]!).2.2.2.2.2.2.2.2.2)] rfl) ?_
    refine deqr 8 (pos := false) (r := true) false (fun W => eq43s ((xs[i]!).1) ((xs[i]!).2.1) ((xs[i]!).2.2.1) ((xs[i]!).2.2.2.1) ((xs[i]!).2.2.2.2.1) ((xs[i]!).2.2.2.2.2.1) ((xs[i]!).2.2.2.2.2.2.1) ((xs[i]!).2.2.2.2.2.2.2.1) ((xs[i]!).2.2.2.2.2.2.2.2.1) ((xs[i]!).2.2.2.2.2.2.2.2.2) W) rfl ?_
    refine de (fs := (ktl [1, 0, 0, 0] (same_c0_2I A c A1 c1 xs w (z2, i)) (kt (bdy Try.f35) [1, 1, 0, 1, 0] [])).tail) ?_
    refine st0 (fs := (ktl [1, 0, 0, 0] (same_c0_2I A c A1 c1 xs w (z2, i)) (kt (bdy Try.f35) [1, 1, 0, 1, 0] [])).tail) ((same_c0_b15 A c A1 c1 xs z2 i B o B1 o1)) [] ?_
    refine ck 3 [] [(1, .int .i64 ((i + 1 : Nat) : Int))] fun γ4 => ⟨⟨ktp (same_c0_2I A c A1 c1 xs w (z2, i)) (kt (bdy Try.f35) [1, 1, 0, 1, 0] []), upv (same_c0_b15 A c A1 c1 xs z2 i B o B1 o1) [(5, .int .i64 ((i + 1 : Nat) : Int)), (15, .int .i64 (i : Int)), (16, .int .i64 ((i + 1 : Nat) : Int))], []⟩, [], [Value.int .i64 (IntKind.wrap .i64 ((i : Int) + 1)) = .int .i64 ((i + 1 : Nat) : Int)], by kernel_rfl, (.cons (congrArg (Value.int .i64) (w64 (by omega) (by omega))) .nil), ?_⟩
    exact nx (st := same_c0_2s A c A1 c1 xs) (F' := same_c0_2F A c A1 c1 xs w) (ok := same_c0_2k A c A1 c1 xs) (μ := same_c0_2m A c A1 c1 xs) (x := (z2, i)) (fun mm => (upv (same_c0_b15 A c A1 c1 xs z2 i B o B1 o1) [(5, .int .i64 ((i + 1 : Nat) : Int)), (15, .int .i64 (i : Int)), (16, .int .i64 ((i + 1 : Nat) : Int))]).getD mm zz, (i + 1)) (show (i + 1) ≤ xs.length from (show i + 1 ≤ xs.length by omega)) (by show _ < _; simp only [same_c0_2m]; omega) 0 0 rfl
  · skip
    refine ck 5 [] [(3, .bool false)] fun γ5 => ⟨⟨kt (bdy Try.f35) [1, 1, 1, 1] [], upv (same_c0_b5 A c A1 c1 xs z2 i) [(4, .bool true), (11, .int .i64 (i : Int)), (12, .slice A xs.length c), (13, .int .i64 ((xs.length : Nat) : Int)), (14, .bool false)], []⟩, [], [Value.bool (decide (((i : Int) : Int) < ((xs.length : Nat) : Int))) = .bool false], by kernel_rfl, (.cons (cbF (by omega)) .nil), ?_⟩
    refine rt (.bool true) [] [] (fun W hW => ?_)
    exact ⟨rfl, (hW.old 0 rfl)⟩
theorem same_c {w : World} {A A1 : Option Addr} {c c1 n : Nat} {xs : List (C10)} (hn : xs.length = n) (h : Rd w (.slice A n c) 10 encT43 xs) (h1 : Rd w (.slice A1 n c1) 10 encT43 xs) (hl : n ≤ 1000) : Calls Try.prog 35 #[.slice A n c, .slice A1 n c1] w fun e w' => e = .returned (.bool true) ∧ Below w.heap.size w w' := by
  subst hn
  exact same_c0 h h1 (by omega)
def to_c0 (Ac : Option Addr) (kq : Nat) (At : Option Addr) (ct : Nat) (tl : List H12) (cl : List C10) (Ar : Option Addr) (rl : List Int) (cr : Nat) : List Value := [.slice At tl.length ct, .bool true, .slice Ac cl.length kq, .slice Ar rl.length cr]
def to_l1 (g : Nat) (tl : List H12) (cl : List C10) (rl : List Int) (Bc : Option Addr) (kc : Nat) (Br : Option Addr) (kr : Nat) (γ1 : Nat → Nat) : List Value := [.pointer (some ⟨g, 0, none⟩), .agg #[.slice Bc cl.length kc, .slice Br rl.length kr], .int .i64 ((tl.length : Nat) : Int), zz, .pointer (some ⟨γ1 0, 0, none⟩), zz, .bool false, zz, zz, zz, zz, zz, zz, zz, zz, zz]
def to_l2 : List Value := [zz, zz, zz, zz, zz, zz, zz, zz, zz]
def to_b3 (g : Nat) (tl : List H12) (cl : List C10) (rl : List Int) (Bc : Option Addr) (kc : Nat) (Br : Option Addr) (kr : Nat) (γ1 : Nat → Nat) : List Value := (to_l1 g tl cl rl Bc kc Br kr γ1) ++ (to_l2)
def to_c4 (cl : List C10) (rl : List Int) (Bc : Option Addr) (kc : Nat) (Br : Option Addr) (kr : Nat) : List Value := [.slice Bc cl.length kc, .slice Br rl.length kr]
def to_l5 (g : Nat) (Ac : Option Addr) (kq : Nat) (cl : List C10) : List Value := [.pointer (some ⟨g, 0, none⟩), zz, .slice none 0 0, .pointer (some ⟨g, 0, none⟩), .bool false, .pointer (some ⟨g, 0, none⟩), .pointer (some ⟨g, 0, none⟩), .pointer (some ⟨g, 2, none⟩), .slice Ac cl.length kq, zz]
def to_l6 (g : Nat) (Ar : Option Addr) (rl : List Int) (cr : Nat) : List Value := [.pointer (some ⟨g, 0, none⟩), zz, .slice none 0 0, .pointer (some ⟨g, 0, none⟩), .bool false, .pointer (some ⟨g, 0, none⟩), .pointer (some ⟨g, 0, none⟩), .pointer (some ⟨g, 3, none⟩), .slice Ar rl.length cr, zz]
def to_l7 (g : Nat) (At : Option Addr) (ct : Nat) (tl : List H12) : List Value := [.pointer (some ⟨g, 0, none⟩), zz, .int .i64 ((tl.length : Nat) : Int), .pointer (some ⟨g, 0, none⟩), .bool false, .pointer (some ⟨g, 0, none⟩), .pointer (some ⟨g, 0, none⟩), .pointer (some ⟨g, 0, none⟩), .pointer (some ⟨g, 0, none⟩), .slice At tl.length ct, .int .i64 ((tl.length : Nat) : Int)]
def to_l8 (g : Nat) (tl : List H12) (cl : List C10) (rl : List Int) (Bc : Option Addr) (kc : Nat) (Br : Option Addr) (kr : Nat) (γ1 : Nat → Nat) (A4 : Option Addr) (c4 : Nat) (A8 : Option Addr) (c8 : Nat) : List Value := [.pointer (some ⟨g, 0, none⟩), .agg #[.slice Bc cl.length kc, .slice Br rl.length kr], .int .i64 ((tl.length : Nat) : Int), zz, .pointer (some ⟨γ1 0, 0, none⟩), zz, .bool true, .pointer (some ⟨g, 0, none⟩), .slice A4 cl.length c4, .pointer (some ⟨γ1 0, 0, none⟩), .slice Bc cl.length kc, .bool true, .bool true, .pointer (some ⟨g, 0, none⟩), .slice A8 rl.length c8, .pointer (some ⟨γ1 0, 1, none⟩)]
def to_l9 (g : Nat) (tl : List H12) (rl : List Int) (Br : Option Addr) (kr : Nat) : List Value := [.slice Br rl.length kr, .bool true, .bool true, .bool true, .pointer (some ⟨g, 0, none⟩), .int .i64 ((tl.length : Nat) : Int), .int .i64 ((tl.length : Nat) : Int), .bool true, .bool true]
def to_b10 (g : Nat) (tl : List H12) (cl : List C10) (rl : List Int) (Bc : Option Addr) (kc : Nat) (Br : Option Addr) (kr : Nat) (γ1 : Nat → Nat) (A4 : Option Addr) (c4 : Nat) (A8 : Option Addr) (c8 : Nat) : List Value := (to_l8 g tl cl rl Bc kc Br kr γ1 A4 c4 A8 c8) ++ ((to_l9 g tl rl Br kr))
set_option maxHeartbeats 8000000 in
set_option maxRecDepth 100000 in
theorem told_is {w : World} {g : Nat} {Ac : Option Addr} {kq : Nat} {At : Option Addr} {ct : Nat} {tl : List H12} {cl : List C10} {Ar : Option Addr} {rl : List Int} {cr : Nat} {X : List Asrt} {Bc : Option Addr} {kc : Nat} {Br : Option Addr} {kr : Nat} (hcl : cl.length ≤ 1000) (hrl : rl.length ≤ 1000) (hxa : rdA (.slice Ar rl.length cr) 1 encT3 rl ∈ X) (hxc : rdA (.slice Bc cl.length kc) 10 encT43 cl ∈ X) (hxb : rdA (.slice Br rl.length kr) 1 encT3 rl ∈ X) (hown : HoldR w [blkA (g, 63, (to_c0 Ac kq At ct tl cl Ar rl cr)), rowA 78 12 (.slice At tl.length ct) tl.length (tl.flatMap encT78), rowA 43 10 (.slice Ac cl.length kq) cl.length (cl.flatMap encT43), pool X]) : Calls Try.prog 15 #[.pointer (some ⟨g, 0, none⟩), .agg #[.slice Bc cl.length kc, .slice Br rl.length kr], .int .i64 ((tl.length : Nat) : Int)] w fun e W => ∃ x : Unit, e = .returned (.bool true) ∧ HoldR W ([blkA (g, 63, (to_c0 Ac kq At ct tl cl Ar rl cr)), rowA 78 12 (.slice At tl.length ct) tl.length (tl.flatMap encT78), rowA 43 10 (.slice Ac cl.length kq) cl.length (cl.flatMap encT43), pool X] ++ [oldF w [blkA (g, 63, (to_c0 Ac kq At ct tl cl Ar rl cr)), rowA 78 12 (.slice At tl.length ct) tl.length (tl.flatMap encT78), rowA 43 10 (.slice Ac cl.length kq) cl.length (cl.flatMap encT43), pool X]]) := by
  refine enterF (args := [.pointer (some ⟨g, 0, none⟩), .agg #[.slice Bc cl.length kc, .slice Br rl.length kr], .int .i64 ((tl.length : Nat) : Int)]) (fn := Try.f15) (L := [(g, 63, (to_c0 Ac kq At ct tl cl Ar rl cr))]) (F0 := [rowA 78 12 (.slice At tl.length ct) tl.length (tl.flatMap encT78), rowA 43 10 (.slice Ac cl.length kq) cl.length (cl.flatMap encT43), pool X]) rfl (c := bdy Try.f15) (by kernel_rfl) hown ?_
  refine ck 2 [] [] fun γ1 => ⟨⟨kt (bdy Try.f15) [1, 0] [], (to_b3 g tl cl rl Bc kc Br kr γ1), [(γ1 0, 29, (to_c4 cl rl Bc kc Br kr)), (g, 63, (to_c0 Ac kq At ct tl cl Ar rl cr))]⟩, [], [], by kernel_rfl, .nil, ?_⟩
  refine dr [] [] .nil ?_
  refine df [0, 2, 3] [(1, 0)] [] [(1, γ1 0)] [] .nil ?_
  refine dcl 1 [3] (f := 13) (args := [.pointer (some ⟨g, 0, none⟩)]) (fn := Try.f13) (c := bdy Try.f13) rfl (fun R2 hR2 => ?_)
  refine ck 7 [(1, 1)] [] fun γ3 => ⟨⟨kt (bdy Try.f13) [1, 1, 0, 4] [], (to_l5 g Ac kq cl), [(γ1 0, 29, (to_c4 cl rl Bc kc Br kr)), (g, 63, (to_c0 Ac kq At ct tl cl Ar rl cr))]⟩, [(1, g)], [], by kernel_rfl, .nil, ?_⟩
  refine cf (args := #[.slice Ac cl.length kq]) (fun W hW => cloneC (xs := cl) (by first | rfl | omega) (own_rd encT43_len (hW.at 1 rfl)) (by omega)) ?_
  rintro ⟨A4, c4⟩
  refine ck 1 [] [] fun γ5 => ⟨⟨kt (bdy Try.f13) [1, 1, 1] [], upv (to_l5 g Ac kq cl) [(2, .slice A4 cl.length c4), (9, .slice A4 cl.length c4)], [(γ1 0, 29, (to_c4 cl rl Bc kc Br kr)), (g, 63, (to_c0 Ac kq At ct tl cl Ar rl cr))]⟩, [], [], by kernel_rfl, .nil, ?_⟩
  refine dclr hR2 (.slice A4 cl.length c4) [] [] [true, true] (.cons (RC.of (.slice Bc cl.length kc) [(1, 0)] [(1, γ1 0)]) .nil) ?_
  refine dp 4 (fun W hW => same_c (xs := cl) (by first | rfl | omega) (own_rdn encT43_len (l := cl) (by first | omega | (simp only [List.length_set]; omega) | simp) (hW.at 0 rfl)) (pool_rd hxc (hW.at 3 rfl)) (by omega)) ?_
  refine df [5, 6, 8, 9] [(1, 0)] [] [(1, γ1 0)] [] .nil ?_
  refine dcl 7 [9] (f := 12) (args := [.pointer (some ⟨g, 0, none⟩)]) (fn := Try.f12) (c := bdy Try.f12) rfl (fun R6 hR6 => ?_)
  refine ck 7 [(1, 1)] [] fun γ7 => ⟨⟨kt (bdy Try.f12) [1, 1, 0, 4] [], (to_l6 g Ar rl cr), [(γ1 0, 29, (to_c4 cl rl Bc kc Br kr)), (g, 63, (to_c0 Ac kq At ct tl cl Ar rl cr))]⟩, [(1, g)], [], by kernel_rfl, .nil, ?_⟩
  refine cf (args := #[.slice Ar rl.length cr]) (fun W hW => cloneI (xs := rl) (by first | rfl | omega) (pool_rd hxa (hW.at 3 rfl)) (by omega)) ?_
  rintro ⟨A8, c8⟩
  refine ck 1 [] [] fun γ9 => ⟨⟨kt (bdy Try.f12) [1, 1, 1] [], upv (to_l6 g Ar rl cr) [(2, .slice A8 rl.length c8), (9, .slice A8 rl.length c8)], [(γ1 0, 29, (to_c4 cl rl Bc kc Br kr)), (g, 63, (to_c0 Ac kq At ct tl cl Ar rl cr))]⟩, [], [], by kernel_rfl, .nil, ?_⟩
  refine dclr hR6 (.slice A8 rl.length c8) [] [] [true, true] (.cons (RC.of (.slice Br rl.length kr) [(1, 0)] [(1, γ1 0)]) .nil) ?_
  refine dp 10 (fun W hW => same_i (xs := rl) (by first | rfl | omega) (own_rdn encT3_len (l := rl) (by first | omega | (simp only [List.length_set]; omega) | simp) (hW.at 0 rfl)) (pool_rd hxb (hW.at 4 rfl)) (by omega)) ?_
  refine df [11, 12, 13, 15] [] [] [] [] .nil ?_
  refine dcl 14 [] (f := 27) (args := [.pointer (some ⟨g, 0, none⟩)]) (fn := Try.f27) (c := bdy Try.f27) rfl (fun R10 hR10 => ?_)
  refine ck 10 [(1, 1)] [] fun γ11 => ⟨⟨kt (bdy Try.f27) [1, 1, 1] [], (to_l7 g At ct tl), [(γ1 0, 29, (to_c4 cl rl Bc kc Br kr)), (g, 63, (to_c0 Ac kq At ct tl cl Ar rl cr))]⟩, [(1, g)], [], by kernel_rfl, .nil, ?_⟩
  refine dclr hR10 (.int .i64 ((tl.length : Nat) : Int)) [] [] [true, true] .nil ?_
  refine df [16, 17, 18] [] [(16, .bool true)] [] [Value.bool ((((tl.length : Nat) : Int) : Int) == ((tl.length : Nat) : Int)) = .bool true] (.cons (cbE (by omega)) .nil) ?_
  refine de (fs := (kt (bdy Try.f15) [1, 0] []).tail) ?_
  refine st0 (fs := (kt (bdy Try.f15) [1, 0] []).tail) ((to_b10 g tl cl rl Bc kc Br kr γ1 A4 c4 A8 c8)) [(γ1 0, 29, (to_c4 cl rl Bc kc Br kr)), (g, 63, (to_c0 Ac kq At ct tl cl Ar rl cr))] ?_
  refine rtL (.bool true) [] [] ([(γ1 0, 29, (to_c4 cl rl Bc kc Br kr)), (g, 63, (to_c0 Ac kq At ct tl cl Ar rl cr))]) (fun W hW => ?_)
  exact ⟨(), rfl, hW.ix [1, 4, 5, 6, 7] (by decide) rfl⟩
theorem told_p {w : World} {g : Nat} {Ac : Option Addr} {kq n nb nr2 : Nat} {At : Option Addr} {ct : Nat} {tl : List H12} {cl : List C10} {Ar : Option Addr} {rl : List Int} {cr : Nat} {X : List Asrt} {Bc : Option Addr} {kc : Nat} {Br : Option Addr} {kr : Nat} {mk : Int} (hn : cl.length = n) (hnb : nb = n) (hnr : nr2 = rl.length) (hm : mk = ((tl.length : Nat) : Int)) (hcl : n ≤ 1000) (hrl : rl.length ≤ 1000) (hxa : rdA (.slice Ar rl.length cr) 1 encT3 rl ∈ X) (hxc : rdA (.slice Bc n kc) 10 encT43 cl ∈ X) (hxb : rdA (.slice Br rl.length kr) 1 encT3 rl ∈ X) (hown : HoldR w (partsP g Ac kq n At ct tl cl Ar rl.length cr X)) : Calls Try.prog 15 #[.pointer (some ⟨g, 0, none⟩), .agg #[.slice Bc nb kc, .slice Br nr2 kr], .int .i64 mk] w fun e W => ∃ x : Unit, e = .returned (.bool true) ∧ HoldR W (partsP g Ac kq n At ct tl cl Ar rl.length cr X ++ [oldF w (partsP g Ac kq n At ct tl cl Ar rl.length cr X)]) := by
  subst hn hnb hnr hm
  exact told_is hcl hrl hxa hxc hxb hown
end Go.Proofs.Ytbijkflfphppgaa.Sr
