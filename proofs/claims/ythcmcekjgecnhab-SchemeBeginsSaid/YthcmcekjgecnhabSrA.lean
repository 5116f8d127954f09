/- Copies, bounds, places in a row, numbers. No condition beside those that each theorem names. -/
import Derived.Test.YthcmcekjgecnhabMach
import Derived.Test.YthcmcekjgecnhabChecked
namespace Go.Proofs.Ythcmcekjgecnhab.Sr
open Go.RowKit Go.Proofs.YthcmcekjgecnhabM.Mach
set_option linter.unusedVariables false
set_option linter.unusedSimpArgs false
def encI (n : Int) : List Value := [.int .i64 n]
def enc3 (x : Int × Int × Int) : List Value := [.int .i64 x.1, .int .i64 x.2.1, .int .i64 x.2.2]
theorem encI_len (x : Int) : (encI x).length = 1 := rfl
theorem enc3_len (x : Int × Int × Int) : (enc3 x).length = 3 := rfl
theorem encI_cell (x : Int) : ∀ u ∈ encI x, cellV u = true := by
  intro u hu
  simp only [encI, List.mem_cons, List.not_mem_nil, or_false] at hu
  subst hu
  rfl
theorem enc3_cell (x : Int × Int × Int) : ∀ u ∈ enc3 x, cellV u = true := by
  intro u hu
  simp only [enc3, List.mem_cons, List.not_mem_nil, or_false] at hu
  rcases hu with rfl | rfl | rfl <;> rfl
abbrev rI (v : Value) (xs : List Int) : Asrt := rowA 2 1 v xs.length (xs.flatMap encI)
abbrev rB (v : Value) (bs : List (Int × Int × Int)) : Asrt := rowA 94 3 v bs.length (bs.flatMap enc3)
abbrev RV := Option Addr × Nat
/-- Three rows' values. -/
structure Rw where
  s : RV
  b : RV
  n : RV
/-- A thread: its numbers, its registers' numbers, and the values of its rows. -/
structure Th where
  pc : Int
  fu : Int
  st : Int
  R : Nat → Int
  kd : Int
  mi : Int
  mn : Int
  sv : RV
  bv : RV
  nv : RV
  old : Int
def Th.cells (t : Th) (k m n : Nat) : Array Value := #[.int .i64 t.pc, .int .i64 t.fu, .int .i64 t.st, .int .i64 (t.R 0), .int .i64 (t.R 1), .int .i64 (t.R 2), .int .i64 (t.R 3), .int .i64 (t.R 4), .int .i64 (t.R 5), .int .i64 (t.R 6), .int .i64 (t.R 7), .int .i64 (t.R 8), .int .i64 (t.R 9), .int .i64 (t.R 10), .int .i64 (t.R 11), .int .i64 t.kd, .int .i64 t.mi, .int .i64 t.mn, .slice t.sv.1 k t.sv.2, .slice t.bv.1 m t.bv.2, .slice t.nv.1 n t.nv.2, .int .i64 t.old]
def Th.rows (t : Th) (r : Rw) : Th := { t with sv := r.s, bv := r.b, nv := r.n }
abbrev rows3 (r : Rw) (xs : List Int) (bs : List (Int × Int × Int)) (ns : List Int) : List Asrt := [rI (.slice r.s.1 xs.length r.s.2) xs, rB (.slice r.b.1 bs.length r.b.2) bs, rI (.slice r.n.1 ns.length r.n.2) ns]
structure ThRd (w : World) (t : Th) (xs : List Int) (bs : List (Int × Int × Int)) (ns : List Int) : Prop where
  s : Rd w (.slice t.sv.1 xs.length t.sv.2) 1 encI xs
  b : Rd w (.slice t.bv.1 bs.length t.bv.2) 3 enc3 bs
  n : Rd w (.slice t.nv.1 ns.length t.nv.2) 1 encI ns
theorem ThRd.below {w W : World} {t : Th} {xs : List Int} {bs : List (Int × Int × Int)} {ns : List Int} (h : ThRd w t xs bs ns) (hb : Below w.heap.size w W) : ThRd W t xs bs ns := ⟨h.s.below hb, h.b.below hb, h.n.below hb⟩
def cloneI_n_l0 (c : Nat) (xs : List (Int)) : List Value := [.slice none xs.length c, zz, .slice none 0 0, .slice none xs.length c, .bool true, zz, zz, zz]
def cloneI_s_l0 (ad : Addr) (c : Nat) (xs : List (Int)) (γ1 : Nat → Nat) : List Value := [.slice (some ad) xs.length c, zz, .slice none 0 0, .slice (some ad) xs.length c, .bool false, .slice (some ⟨γ1 3, 0, none⟩) 0 0, .slice (some ad) xs.length c, zz]
set_option maxHeartbeats 8000000 in
set_option maxRecDepth 100000 in
theorem cloneI {w : World} {A : Option Addr} {c : Nat} {xs : List (Int)} (h : Rd w (.slice A xs.length c) 1 encI xs) (hl : xs.length ≤ 1000) : Calls Try.prog 76 #[.slice A xs.length c] w fun e w' => ∃ r : RV, e = .returned (.slice r.1 xs.length r.2) ∧ Fresh w w' [rI (.slice r.1 xs.length r.2) xs] := by
  rcases A with _ | ad
  · skip
    have hl0 : xs = [] := by
      obtain ⟨A, c', e0, hc, hA⟩ := h
      cases e0
      rcases hA with h | ⟨B, o, h, _⟩
      · exact h
      · cases h
    refine enter (args := [.slice none xs.length c]) (fn := Try.f76) rfl (c := bdy Try.f76) (by kernel_rfl) ?_
    refine ck 4 [] [] fun γ1 => ⟨⟨kt (bdy Try.f76) [1, 0, 1, 0, 1] [], (cloneI_n_l0 c xs), []⟩, [], [], by kernel_rfl, .nil, ?_⟩
    subst hl0
    refine nilrow 2 1 ?_
    refine rt (.slice none 0 0) [] [] (fun W hW => ⟨(none, 0), rfl, Fresh.of hW (.cons_cons _ (.cons_cons _ .slnil))⟩)
  · skip
    refine enter (args := [.slice (some ad) xs.length c]) (fn := Try.f76) rfl (c := bdy Try.f76) (by kernel_rfl) ?_
    refine ck 5 [] [] fun γ1 => ⟨⟨kt (bdy Try.f76) [1, 1, 0, 2] [], (cloneI_s_l0 ad c xs γ1), [(γ1 3, 2, [])]⟩, [], [], by kernel_rfl, .nil, ?_⟩
    refine zrow 2 1 (some ⟨γ1 3, 0, none⟩) ?_
    refine aps (enc := encI) (l := xs) 0 8 rfl (fun W hW => (h.below (hW.old 1 rfl))) encI_len encI_cell (by first | omega | (simp only [List.length_append, List.length_cons, List.length_nil]; omega)) (by simp only [maxLen]; first | omega | (simp only [List.length_append, List.length_cons, List.length_nil]; omega)) xs.length (xs.flatMap encI) (by simp) (by simp) fun A2 c2 => ?_
    refine ck 1 [] [] fun γ3 => ⟨⟨kt (bdy Try.f76) [1, 1, 1] [], upv (cloneI_s_l0 ad c xs γ1) [(2, .slice A2 xs.length c2), (7, .slice A2 xs.length c2)], [(γ1 3, 2, [])]⟩, [], [], by kernel_rfl, .nil, ?_⟩
    refine rt (.slice A2 xs.length c2) [] [] (fun W hW => ?_)
    exact ⟨(A2, c2), rfl, Fresh.of hW (.cons_cons _ (.cons_cons _ .slnil))⟩
def cloneB_n_l0 (c : Nat) (xs : List (Int × Int × Int)) : List Value := [.slice none xs.length c, zz, .slice none 0 0, .slice none xs.length c, .bool true, zz, zz, zz]
def cloneB_s_l0 (ad : Addr) (c : Nat) (xs : List (Int × Int × Int)) (γ1 : Nat → Nat) : List Value := [.slice (some ad) xs.length c, zz, .slice none 0 0, .slice (some ad) xs.length c, .bool false, .slice (some ⟨γ1 3, 0, none⟩) 0 0, .slice (some ad) xs.length c, zz]
set_option maxHeartbeats 8000000 in
set_option maxRecDepth 100000 in
theorem cloneB {w : World} {A : Option Addr} {c : Nat} {xs : List (Int × Int × Int)} (h : Rd w (.slice A xs.length c) 3 enc3 xs) (hl : xs.length ≤ 1000) : Calls Try.prog 85 #[.slice A xs.length c] w fun e w' => ∃ r : RV, e = .returned (.slice r.1 xs.length r.2) ∧ Fresh w w' [rB (.slice r.1 xs.length r.2) xs] := by
  rcases A with _ | ad
  · skip
    have hl0 : xs = [] := by
      obtain ⟨A, c', e0, hc, hA⟩ := h
      cases e0
      rcases hA with h | ⟨B, o, h, _⟩
      · exact h
      · cases h
    refine enter (args := [.slice none xs.length c]) (fn := Try.f85) rfl (c := bdy Try.f85) (by kernel_rfl) ?_
    refine ck 4 [] [] fun γ1 => ⟨⟨kt (bdy Try.f85) [1, 0, 1, 0, 1] [], (cloneB_n_l0 c xs), []⟩, [], [], by kernel_rfl, .nil, ?_⟩
    subst hl0
    refine nilrow 94 3 ?_
    refine rt (.slice none 0 0) [] [] (fun W hW => ⟨(none, 0), rfl, Fresh.of hW (.cons_cons _ (.cons_cons _ .slnil))⟩)
  · skip
    refine enter (args := [.slice (some ad) xs.length c]) (fn := Try.f85) rfl (c := bdy Try.f85) (by kernel_rfl) ?_
    refine ck 5 [] [] fun γ1 => ⟨⟨kt (bdy Try.f85) [1, 1, 0, 2] [], (cloneB_s_l0 ad c xs γ1), [(γ1 3, 94, [])]⟩, [], [], by kernel_rfl, .nil, ?_⟩
    refine zrow 94 3 (some ⟨γ1 3, 0, none⟩) ?_
    refine aps (enc := enc3) (l := xs) 0 24 rfl (fun W hW => (h.below (hW.old 1 rfl))) enc3_len enc3_cell (by first | omega | (simp only [List.length_append, List.length_cons, List.length_nil]; omega)) (by simp only [maxLen]; first | omega | (simp only [List.length_append, List.length_cons, List.length_nil]; omega)) xs.length (xs.flatMap enc3) (by simp) (by simp) fun A2 c2 => ?_
    refine ck 1 [] [] fun γ3 => ⟨⟨kt (bdy Try.f85) [1, 1, 1] [], upv (cloneB_s_l0 ad c xs γ1) [(2, .slice A2 xs.length c2), (7, .slice A2 xs.length c2)], [(γ1 3, 94, [])]⟩, [], [], by kernel_rfl, .nil, ?_⟩
    refine rt (.slice A2 xs.length c2) [] [] (fun W hW => ?_)
    exact ⟨(A2, c2), rfl, Fresh.of hW (.cons_cons _ (.cons_cons _ .slnil))⟩
def th_own_c0 (t : Th) (xs : List Int) (bs : List (Int × Int × Int)) (ns : List Int) : List Value := [.int .i64 t.pc, .int .i64 t.fu, .int .i64 t.st, .int .i64 (t.R 0), .int .i64 (t.R 1), .int .i64 (t.R 2), .int .i64 (t.R 3), .int .i64 (t.R 4), .int .i64 (t.R 5), .int .i64 (t.R 6), .int .i64 (t.R 7), .int .i64 (t.R 8), .int .i64 (t.R 9), .int .i64 (t.R 10), .int .i64 (t.R 11), .int .i64 t.kd, .int .i64 t.mi, .int .i64 t.mn, .slice t.sv.1 xs.length t.sv.2, .slice t.bv.1 bs.length t.bv.2, .slice t.nv.1 ns.length t.nv.2, .int .i64 t.old]
def th_own_l1 (t : Th) (xs : List Int) (bs : List (Int × Int × Int)) (ns : List Int) (γ1 : Nat → Nat) : List Value := [.agg ⟨(th_own_c0 t xs bs ns)⟩, .pointer (some ⟨γ1 0, 0, none⟩), .pointer (some ⟨γ1 1, 0, none⟩), zz, zz, zz, zz, zz, zz, zz, zz, zz, zz, zz, zz, zz]
def th_own_l2 : List Value := [zz, zz]
def th_own_b3 (t : Th) (xs : List Int) (bs : List (Int × Int × Int)) (ns : List Int) (γ1 : Nat → Nat) : List Value := (th_own_l1 t xs bs ns γ1) ++ (th_own_l2)
def th_own_c4 : List Value := [.int .i64 0, .int .i64 0, .int .i64 0, .int .i64 0, .int .i64 0, .int .i64 0, .int .i64 0, .int .i64 0, .int .i64 0, .int .i64 0, .int .i64 0, .int .i64 0, .int .i64 0, .int .i64 0, .int .i64 0, .int .i64 0, .int .i64 0, .int .i64 0, .slice none 0 0, .slice none 0 0, .slice none 0 0, .int .i64 0]
def th_own_l5 (t : Th) (xs : List Int) (bs : List (Int × Int × Int)) (ns : List Int) (γ1 : Nat → Nat) (v2 : RV) (v3 : RV) (v4 : RV) : List Value := [.agg ⟨(th_own_c0 t xs bs ns)⟩, .pointer (some ⟨γ1 0, 0, none⟩), .pointer (some ⟨γ1 1, 0, none⟩), .pointer (some ⟨γ1 0, 15, none⟩), .pointer (some ⟨γ1 0, 18, none⟩), .slice t.sv.1 xs.length t.sv.2, .slice v2.1 xs.length v2.2, .pointer (some ⟨γ1 0, 19, none⟩), .slice t.bv.1 bs.length t.bv.2, .slice v3.1 bs.length v3.2, .pointer (some ⟨γ1 0, 20, none⟩), .slice t.nv.1 ns.length t.nv.2, .slice v4.1 ns.length v4.2, .pointer (some ⟨γ1 0, 15, none⟩), .pointer (some ⟨γ1 0, 18, none⟩), .pointer (some ⟨γ1 0, 19, none⟩)]
def th_own_l6 (γ1 : Nat → Nat) : List Value := [.pointer (some ⟨γ1 0, 20, none⟩), zz]
def th_own_b7 (t : Th) (xs : List Int) (bs : List (Int × Int × Int)) (ns : List Int) (γ1 : Nat → Nat) (v2 : RV) (v3 : RV) (v4 : RV) : List Value := (th_own_l5 t xs bs ns γ1 v2 v3 v4) ++ ((th_own_l6 γ1))
def th_own_c8 (t : Th) (xs : List Int) (bs : List (Int × Int × Int)) (ns : List Int) (v2 : RV) (v3 : RV) (v4 : RV) : List Value := [.int .i64 t.pc, .int .i64 t.fu, .int .i64 t.st, .int .i64 (t.R 0), .int .i64 (t.R 1), .int .i64 (t.R 2), .int .i64 (t.R 3), .int .i64 (t.R 4), .int .i64 (t.R 5), .int .i64 (t.R 6), .int .i64 (t.R 7), .int .i64 (t.R 8), .int .i64 (t.R 9), .int .i64 (t.R 10), .int .i64 (t.R 11), .int .i64 t.kd, .int .i64 t.mi, .int .i64 t.mn, .slice v2.1 xs.length v2.2, .slice v3.1 bs.length v3.2, .slice v4.1 ns.length v4.2, .int .i64 t.old]
set_option maxHeartbeats 8000000 in
set_option maxRecDepth 100000 in
theorem th_own {w : World} {t : Th} {xs : List Int} {bs : List (Int × Int × Int)} {ns : List Int} (h : ThRd w t xs bs ns) (hl : xs.length ≤ 1000 ∧ bs.length ≤ 1000 ∧ ns.length ≤ 1000) : Calls Try.prog 64 #[.agg (t.cells xs.length bs.length ns.length)] w fun e w' => ∃ r : Rw, e = .returned (.agg (((t).rows r).cells xs.length bs.length ns.length)) ∧ Fresh w w' (rows3 r xs bs ns) := by
  refine enter (args := [.agg ⟨(th_own_c0 t xs bs ns)⟩]) (fn := Try.f64) rfl (c := bdy Try.f64) (by kernel_rfl) ?_
  refine ck 2 [] [] fun γ1 => ⟨⟨kt (bdy Try.f64) [1, 0] [], (th_own_b3 t xs bs ns γ1), [(γ1 1, 62, th_own_c4), (γ1 0, 62, (th_own_c0 t xs bs ns))]⟩, [], [], by kernel_rfl, .nil, ?_⟩
  refine dr [] [] .nil ?_
  refine df [0, 1, 2, 4, 5, 7, 8] [(3, 1)] [] [(3, γ1 0)] [] .nil ?_
  refine df' 3 (fun W hW => cloneI (h.s.below (hW.old 0 rfl)) hl.1) fun v2 => ?_
  refine df [10, 11] [] [] [] [] .nil ?_
  refine df' 6 (fun W hW => cloneB (h.b.below (hW.old 1 rfl)) hl.2.1) fun v3 => ?_
  refine df' 9 (fun W hW => cloneI (h.n.below (hW.old 2 rfl)) hl.2.2) fun v4 => ?_
  refine ds 12 [(1, 1)] [(1, γ1 0)] ?_
  refine df [13] [] [] [] [] .nil ?_
  refine ds 14 [(1, 1)] [(1, γ1 0)] ?_
  refine df [15] [] [] [] [] .nil ?_
  refine ds 16 [(1, 1)] [(1, γ1 0)] ?_
  refine de (fs := (kt (bdy Try.f64) [1, 0] []).tail) ?_
  refine st0 (fs := (kt (bdy Try.f64) [1, 0] []).tail) ((th_own_b7 t xs bs ns γ1 v2 v3 v4)) [(γ1 1, 62, th_own_c4), (γ1 0, 62, (th_own_c8 t xs bs ns v2 v3 v4))] ?_
  refine ck 2 [(22, 1), (22, 0)] [] fun γ5 => ⟨⟨kt (bdy Try.f64) [1, 1, 1] [], upv (th_own_b7 t xs bs ns γ1 v2 v3 v4) [(17, .agg ⟨(th_own_c8 t xs bs ns v2 v3 v4)⟩)], [(γ1 1, 62, (th_own_c8 t xs bs ns v2 v3 v4)), (γ1 0, 62, (th_own_c8 t xs bs ns v2 v3 v4))]⟩, [(22, γ1 0), (22, γ1 1)], [], by kernel_rfl, .nil, ?_⟩
  refine rt (.agg ⟨(th_own_c8 t xs bs ns v2 v3 v4)⟩) [(22, 0)] [(22, γ1 1)] (fun W hW => ?_)
  exact ⟨⟨(v2.1, v2.2), (v3.1, v3.2), (v4.1, v4.2)⟩, rfl, Fresh.of (R := [rowA 2 1 (.slice v2.1 xs.length v2.2) xs.length (xs.flatMap encI), rowA 94 3 (.slice v3.1 bs.length v3.2) bs.length (bs.flatMap enc3), rowA 2 1 (.slice v4.1 ns.length v4.2) ns.length (ns.flatMap encI)]) (hW.perm (permIx [2, 1, 0, 3] rfl (permB _ _ rfl))) (.cons_cons _ (.cons_cons _ (.cons_cons _ (.cons_cons _ (.slnil)))))⟩
def in_raw_0_l0 (a : Int) (lo : Int) (hi : Int) : List Value := [.int .i64 a, .int .i64 lo, .int .i64 hi, zz, zz, zz, .bool false, .int .i64 lo, .int .i64 a, .bool false, .bool false, zz, zz, zz, .bool false]
def in_raw_1_l0 (a : Int) (lo : Int) (hi : Int) : List Value := [.int .i64 a, .int .i64 lo, .int .i64 hi, zz, zz, zz, .bool true, .int .i64 lo, .int .i64 a, .bool true, .bool true, .int .i64 a, .int .i64 hi, .bool true, .bool true]
def in_raw_2_l0 (a : Int) (lo : Int) (hi : Int) : List Value := [.int .i64 a, .int .i64 lo, .int .i64 hi, zz, zz, zz, .bool false, .int .i64 lo, .int .i64 a, .bool true, .bool true, .int .i64 a, .int .i64 hi, .bool false, .bool false]
set_option maxHeartbeats 8000000 in
set_option maxRecDepth 100000 in
theorem in_raw (a lo hi : Int) (w : World) : Calls Try.prog 45 #[.int .i64 a, .int .i64 lo, .int .i64 hi] w fun e w' => e = .returned (.bool (decide (lo ≤ a ∧ a ≤ hi))) ∧ Below w.heap.size w w' := by
  have hc : ¬ lo ≤ a ∨ (lo ≤ a ∧ a ≤ hi) ∨ (lo ≤ a ∧ ¬ a ≤ hi) := by omega
  rcases hc with hc | hc | hc
  · skip
    refine enter (args := [.int .i64 a, .int .i64 lo, .int .i64 hi]) (fn := Try.f45) rfl (c := bdy Try.f45) (by kernel_rfl) ?_
    refine ck 10 [] [(3, .bool false)] fun γ1 => ⟨⟨kt (bdy Try.f45) [1, 1] [], (in_raw_0_l0 a lo hi), []⟩, [], [Value.bool (decide ((lo : Int) ≤ a)) = .bool false], by kernel_rfl, (.cons (cbF (by omega)) .nil), ?_⟩
    refine rt (.bool false) [] [] (fun W hW => ?_)
    exact ⟨by rw [decide_eq_false (by omega)], (hW.old 0 rfl)⟩
  · skip
    refine enter (args := [.int .i64 a, .int .i64 lo, .int .i64 hi]) (fn := Try.f45) rfl (c := bdy Try.f45) (by kernel_rfl) ?_
    refine ck 10 [] [(3, .bool true), (7, .bool true)] fun γ1 => ⟨⟨kt (bdy Try.f45) [1, 1] [], (in_raw_1_l0 a lo hi), []⟩, [], [Value.bool (decide ((lo : Int) ≤ a)) = .bool true, Value.bool (decide ((a : Int) ≤ hi)) = .bool true], by kernel_rfl, (.cons (cbT (by omega)) (.cons (cbT (by omega)) .nil)), ?_⟩
    refine rt (.bool true) [] [] (fun W hW => ?_)
    exact ⟨by rw [decide_eq_true (by omega)], (hW.old 0 rfl)⟩
  · skip
    refine enter (args := [.int .i64 a, .int .i64 lo, .int .i64 hi]) (fn := Try.f45) rfl (c := bdy Try.f45) (by kernel_rfl) ?_
    refine ck 10 [] [(3, .bool true), (7, .bool false)] fun γ1 => ⟨⟨kt (bdy Try.f45) [1, 1] [], (in_raw_2_l0 a lo hi), []⟩, [], [Value.bool (decide ((lo : Int) ≤ a)) = .bool true, Value.bool (decide ((a : Int) ≤ hi)) = .bool false], by kernel_rfl, (.cons (cbT (by omega)) (.cons (cbF (by omega)) .nil)), ?_⟩
    refine rt (.bool false) [] [] (fun W hW => ?_)
    exact ⟨by rw [decide_eq_false (by omega)], (hW.old 0 rfl)⟩
theorem in_is (a lo hi : Int) (b : Bool) (h : decide (lo ≤ a ∧ a ≤ hi) = b) (w : World) : Calls Try.prog 45 #[.int .i64 a, .int .i64 lo, .int .i64 hi] w fun e w' => e = .returned (.bool b) ∧ Below w.heap.size w w' := by
  subst h
  exact in_raw a lo hi w
def clampF (x lo hi : Int) : Int := if x < lo then lo else if hi < x then hi else x
def clamp_is_0_l0 (x : Int) (lo : Int) (hi : Int) : List Value := [.int .i64 x, .int .i64 lo, .int .i64 hi, zz, zz, zz, .int .i64 lo, .int .i64 x, .int .i64 lo, .bool true, .int .i64 lo, zz, zz, zz]
def clamp_is_1_l0 (x : Int) (lo : Int) (hi : Int) : List Value := [.int .i64 x, .int .i64 lo, .int .i64 hi, zz, zz, zz, .int .i64 (if (hi : Int) < x then hi else x), .int .i64 x, .int .i64 lo, .bool false, zz, .int .i64 x, .int .i64 hi, .int .i64 (if (hi : Int) < x then hi else x)]
set_option maxHeartbeats 8000000 in
set_option maxRecDepth 100000 in
theorem clamp_is (x lo hi : Int) (w : World) : Calls Try.prog 83 #[.int .i64 x, .int .i64 lo, .int .i64 hi] w fun e w' => e = .returned (.int .i64 (clampF x lo hi)) ∧ Below w.heap.size w w' := by
  by_cases hc : x < lo
  · skip
    refine enter (args := [.int .i64 x, .int .i64 lo, .int .i64 hi]) (fn := Try.f83) rfl (c := bdy Try.f83) (by kernel_rfl) ?_
    refine ck 6 [] [(3, .bool true)] fun γ1 => ⟨⟨kt (bdy Try.f83) [1, 0, 1, 0, 1] [], (clamp_is_0_l0 x lo hi), []⟩, [], [Value.bool (decide ((x : Int) < lo)) = .bool true], by kernel_rfl, (.cons (cbT (by omega)) .nil), ?_⟩
    refine rt (.int .i64 lo) [] [] (fun W hW => ?_)
    refine ⟨?_, (hW.old 0 rfl)⟩
    unfold clampF
    rw [if_pos hc]
  · skip
    refine enter (args := [.int .i64 x, .int .i64 lo, .int .i64 hi]) (fn := Try.f83) rfl (c := bdy Try.f83) (by kernel_rfl) ?_
    refine ck 8 [] [(3, .bool false)] fun γ1 => ⟨⟨kt (bdy Try.f83) [1, 1, 1] [], (clamp_is_1_l0 x lo hi), []⟩, [], [Value.bool (decide ((x : Int) < lo)) = .bool false], by kernel_rfl, (.cons (cbF (by omega)) .nil), ?_⟩
    refine rt (.int .i64 (if (hi : Int) < x then hi else x)) [] [] (fun W hW => ?_)
    refine ⟨?_, (hW.old 0 rfl)⟩
    unfold clampF
    rw [if_neg hc]
def idxR (n : Int) : List Int → Nat → Int
  | [], _ => -1
  | x :: l, i => if n = x then (i : Int) else idxR n l (i + 1)
theorem idxR_drop {n : Int} {xs : List Int} {i : Nat} (h : i < xs.length) : idxR n (xs.drop i) i = if n = xs[i]! then (i : Int) else idxR n (xs.drop (i + 1)) (i + 1) := by
  rw [List.drop_eq_getElem_cons h, getElem!_pos xs i h]
  rfl
theorem idxR_mem (n : Int) : ∀ (l : List Int) (i : Nat), 0 ≤ idxR n l i ↔ n ∈ l
  | [], i => by simp [idxR]
  | x :: l, i => by
    unfold idxR
    by_cases h : n = x
    · rw [if_pos h]
      simp [h]
    · rw [if_neg h, idxR_mem n l (i + 1)]
      simp [h]
def sx_l0 (A : Option Addr) (c : Nat) (xs : List Int) (n : Int) : List Value := [.slice A xs.length c, .int .i64 n, zz, zz, .int .i64 0, zz, .slice A xs.length c, .int .i64 ((xs.length : Nat) : Int), .int .i64 0, zz, zz, zz, zz, zz, zz, zz]
def sx_l1 : List Value := [zz, zz, zz]
def sx_b2 (A : Option Addr) (c : Nat) (xs : List Int) (n : Int) : List Value := (sx_l0 A c xs n) ++ (sx_l1)
def sx_l3 (A : Option Addr) (c : Nat) (xs : List Int) (n : Int) (z2 : Nat → Value) (i : Nat) : List Value := [.slice A xs.length c, .int .i64 n, zz, zz, z2 4, z2 5, .slice A xs.length c, .int .i64 ((xs.length : Nat) : Int), .int .i64 (i : Int), z2 9, z2 10, z2 11, z2 12, z2 13, z2 14, z2 15]
def sx_l4 (z2 : Nat → Value) : List Value := [z2 16, z2 17, z2 18]
def sx_b5 (A : Option Addr) (c : Nat) (xs : List Int) (n : Int) (z2 : Nat → Value) (i : Nat) : List Value := (sx_l3 A c xs n z2 i) ++ ((sx_l4 z2))
abbrev sx_2X := (Nat → Value) × Nat
def sx_2s (A : Option Addr) (c : Nat) (xs : List Int) (n : Int) (x : sx_2X) : List Value × List Blk := ((sx_b5 A c xs n (x.1) (x.2)), [])
def sx_2k (A : Option Addr) (c : Nat) (xs : List Int) (n : Int) (x : sx_2X) : Prop := (x.2) ≤ xs.length ∧ idxR n xs 0 = idxR n (xs.drop (x.2)) (x.2)
def sx_2m (A : Option Addr) (c : Nat) (xs : List Int) (n : Int) (x : sx_2X) : Nat := xs.length - (x.2)
def sx_2F (A : Option Addr) (c : Nat) (xs : List Int) (n : Int) (w : World) (x : sx_2X) : List Asrt := [old w]
abbrev sx_2I (A : Option Addr) (c : Nat) (xs : List Int) (n : Int) (w : World) (x : sx_2X) : Act → World → Prop := Inv (sx_2s A c xs n) (sx_2F A c xs n w) (sx_2k A c xs n) (sx_2m A c xs n) x
set_option maxHeartbeats 8000000 in
set_option maxRecDepth 100000 in
theorem index_is {w : World} {A : Option Addr} {c : Nat} {xs : List Int} (h : Rd w (.slice A xs.length c) 1 encI xs) (hl : xs.length ≤ 100000) (n : Int) : Calls Try.prog 109 #[.slice A xs.length c, .int .i64 n] w fun e w' => e = .returned (.int .i64 (idxR n xs 0)) ∧ Below w.heap.size w w' := by
  obtain ⟨A', c', e0, hc, hA⟩ := id h
  cases e0
  refine enter (args := [.slice A xs.length c, .int .i64 n]) (fn := Try.f109) rfl (c := bdy Try.f109) (by kernel_rfl) ?_
  refine ck 4 [] [] fun γ1 => ⟨⟨kt (bdy Try.f109) [1, 0, 1, 0] [], (sx_b2 A c xs n), []⟩, [], [], by kernel_rfl, .nil, ?_⟩
  refine lp (sx_2s A c xs n) (sx_2F A c xs n w) (sx_2k A c xs n) (sx_2m A c xs n) ((fun mm => ((sx_b2 A c xs n)).getD mm zz, 0)) (kt (bdy Try.f109) [1, 0, 1, 0] []) ⟨Nat.zero_le _, rfl⟩ rfl ?_
  rintro ⟨z2, i⟩ hok
  obtain ⟨hi, hx⟩ : i ≤ xs.length ∧ idxR n xs 0 = idxR n (xs.drop i) i := hok
  refine st1 (ktl [] (sx_2I A c xs n w (z2, i)) (kt (bdy Try.f109) [1, 0, 1, 0] [])) ((sx_b5 A c xs n z2 i)) [] ?_
  by_cases hin : i < xs.length
  · skip
    obtain ⟨B, o, hAe, hat⟩ := hA.resolve_left (fun e => by rw [e] at hin; simp at hin)
    refine ck 6 [] [(0, .bool true)] fun γ3 => ⟨⟨ktl [1, 1, 0, 0, 1, 0, 3] (sx_2I A c xs n w (z2, i)) (kt (bdy Try.f109) [1, 0, 1, 0] []), upv (sx_b5 A c xs n z2 i) [(5, .int .i64 (i : Int)), (9, .bool true), (10, .int .i64 (i : Int)), (11, .int .i64 n), (12, .slice A xs.length c), (13, .int .i64 (i : Int))], []⟩, [], [Value.bool (decide (((i : Int) : Int) < ((xs.length : Nat) : Int))) = .bool true], by kernel_rfl, (.cons (cbT (by omega)) .nil), ?_⟩
    refine ixr (n := xs.length) (sz := 1) (j := (i : Int)) hAe i (by omega) ?_
    refine ldr (n := 1) (row := false) [.int .i64 (xs[i]!)] (fun W hW => (hat.below (hW.old 0 rfl)).ld (i := i) (by omega) 0 [.int .i64 (xs[i]!)] rfl) ?_
    by_cases hne : n = xs[i]!
    · skip
      refine ck 3 [] [(0, .bool true)] fun γ4 => ⟨⟨ktl [1, 1, 0, 0, 1, 1, 0, 1] (sx_2I A c xs n w (z2, i)) (kt (bdy Try.f109) [1, 0, 1, 0] []), upv (sx_b5 A c xs n z2 i) [(4, .int .i64 (i : Int)), (5, .int .i64 (i : Int)), (9, .bool true), (10, .int .i64 (i : Int)), (11, .int .i64 n), (12, .slice A xs.length c), (13, .int .i64 (i : Int)), (14, .pointer (some ⟨B, o + i * 1, none⟩)), (15, .int .i64 (xs[i]!)), (16, .bool true), (17, .int .i64 (i : Int))], []⟩, [], [Value.bool ((n : Int) == (xs[i]!)) = .bool true], by kernel_rfl, (.cons (cbE hne) .nil), ?_⟩
      refine rt (.int .i64 (i : Int)) [] [] (fun W hW => ?_)
      refine ⟨?_, (hW.old 0 rfl)⟩
      rw [hx, idxR_drop hin, if_pos hne]
    · skip
      refine ck 3 [] [(0, .bool false), (1, .int .i64 ((i + 1 : Nat) : Int))] fun γ5 => ⟨⟨ktp (sx_2I A c xs n w (z2, i)) (kt (bdy Try.f109) [1, 0, 1, 0] []), upv (sx_b5 A c xs n z2 i) [(5, .int .i64 (i : Int)), (8, .int .i64 ((i + 1 : Nat) : Int)), (9, .bool true), (10, .int .i64 (i : Int)), (11, .int .i64 n), (12, .slice A xs.length c), (13, .int .i64 (i : Int)), (14, .pointer (some ⟨B, o + i * 1, none⟩)), (15, .int .i64 (xs[i]!)), (16, .bool false), (18, .int .i64 ((i + 1 : Nat) : Int))], []⟩, [], [Value.bool ((n : Int) == (xs[i]!)) = .bool false, Value.int .i64 (IntKind.wrap .i64 ((i : Int) + 1)) = .int .i64 ((i + 1 : Nat) : Int)], by kernel_rfl, (.cons (cbN hne) (.cons (congrArg (Value.int .i64) (w64 (by omega) (by omega))) .nil)), ?_⟩
      exact nx (st := sx_2s A c xs n) (F' := sx_2F A c xs n w) (ok := sx_2k A c xs n) (μ := sx_2m A c xs n) (x := (z2, i)) (fun mm => (upv (sx_b5 A c xs n z2 i) [(5, .int .i64 (i : Int)), (8, .int .i64 ((i + 1 : Nat) : Int)), (9, .bool true), (10, .int .i64 (i : Int)), (11, .int .i64 n), (12, .slice A xs.length c), (13, .int .i64 (i : Int)), (14, .pointer (some ⟨B, o + i * 1, none⟩)), (15, .int .i64 (xs[i]!)), (16, .bool false), (18, .int .i64 ((i + 1 : Nat) : Int))]).getD mm zz, (i + 1)) (show (i + 1) ≤ xs.length ∧ idxR n xs 0 = idxR n (xs.drop (i + 1)) (i + 1) from ⟨by omega, by rw [hx, idxR_drop hin, if_neg hne]⟩) (by show _ < _; simp only [sx_2m]; omega) 0 0 rfl
  · skip
    refine ck 2 [] [(0, .bool false)] fun γ6 => ⟨⟨kt (bdy Try.f109) [1, 1, 1] [], upv (sx_b5 A c xs n z2 i) [(4, .int .i64 (-1)), (9, .bool false)], []⟩, [], [Value.bool (decide (((i : Int) : Int) < ((xs.length : Nat) : Int))) = .bool false], by kernel_rfl, (.cons (cbF (by omega)) .nil), ?_⟩
    refine rt (.int .i64 (-1)) [] [] (fun W hW => ?_)
    refine ⟨?_, (hW.old 0 rfl)⟩
    rw [hx, List.drop_eq_nil_of_le (by omega)]
    rfl
theorem wrap2_ne (e : Int) : ¬ IntKind.wrap .i64 (e - 2) = e := by
  unfold IntKind.wrap
  simp only [IntKind.bits, IntKind.signed]
  omega
def selF (g : Int × Int × Int → Nat → Bool) : List (Int × Int × Int) → Nat → List (Int × Int × Int)
  | [], _ => []
  | x :: l, i => if g x i then x :: selF g l (i + 1) else selF g l (i + 1)
theorem selF_snoc (g : Int × Int × Int → Nat → Bool) : ∀ (l : List (Int × Int × Int)) (x : Int × Int × Int) (i : Nat), selF g (l ++ [x]) i = selF g l i ++ (if g x (i + l.length) then [x] else [])
  | [], x, i => by simp [selF]
  | y :: l, x, i => by
    simp only [List.cons_append, selF, selF_snoc g l x (i + 1), List.length_cons]
    rw [show i + 1 + l.length = i + (l.length + 1) by omega]
    split <;> simp
theorem take_snoc {l : List (Int × Int × Int)} {i : Nat} (h : i < l.length) : l.take (i + 1) = l.take i ++ [(l[i]!.1, l[i]!.2.1, l[i]!.2.2)] := by
  rw [List.take_succ_eq_append_getElem h, getElem!_pos l i h]
theorem sel_yes {g : Int × Int × Int → Nat → Bool} {l f : List (Int × Int × Int)} {i : Nat} (h : i < l.length) (hf : f = selF g (l.take i) 0) (hg : g l[i]! i = true) : f ++ [(l[i]!.1, l[i]!.2.1, l[i]!.2.2)] = selF g (l.take (i + 1)) 0 := by
  rw [take_snoc h, selF_snoc, hf, List.length_take, Nat.zero_add, show min i l.length = i by omega]
  have : g (l[i]!.1, l[i]!.2.1, l[i]!.2.2) i = true := hg
  rw [this]
  rfl
theorem sel_no {g : Int × Int × Int → Nat → Bool} {l f : List (Int × Int × Int)} {i : Nat} (h : i < l.length) (hf : f = selF g (l.take i) 0) (hg : g l[i]! i = false) : f = selF g (l.take (i + 1)) 0 := by
  rw [take_snoc h, selF_snoc, hf, List.length_take, Nat.zero_add, show min i l.length = i by omega]
  have : g (l[i]!.1, l[i]!.2.1, l[i]!.2.2) i = false := hg
  rw [this]
  simp
theorem sel_len (g : Int × Int × Int → Nat → Bool) : ∀ (l : List (Int × Int × Int)) (i : Nat), (selF g l i).length ≤ l.length
  | [], _ => Nat.le_refl _
  | x :: l, i => by
    have := sel_len g l (i + 1)
    simp only [selF]
    split <;> simp only [List.length_cons] <;> omega
def wrapI (x : Int) : Int := IntKind.wrap .i64 x
/-- May it go? -/
def gF (sch mn old : Int) (xs : List Int) (x : Int × Int × Int) (i : Nat) : Bool := if sch = 1 then !decide (x.1 ∈ xs) else if sch = 2 then decide (wrapI (mn - 2) < mn ∧ x.2.2 ≤ wrapI (mn - 2)) else if sch = 3 then decide ((i : Int) < old) else false
def nF (g : Int × Int × Int → Nat → Bool) (x : Int × Int × Int) (i : Nat) : Bool := !g x i
def sc0_l0 (A : Option Addr) (c : Nat) (xs : List Int) (n : Int) : List Value := [.slice A xs.length c, .int .i64 n, zz, zz, .bool false, .slice A xs.length c, .int .i64 n, zz, zz]
def sc1_l0 (A : Option Addr) (c : Nat) (xs : List Int) (n : Int) : List Value := [.slice A xs.length c, .int .i64 n, zz, zz, .bool false, .slice A xs.length c, .int .i64 n, zz, zz]
set_option maxHeartbeats 8000000 in
set_option maxRecDepth 100000 in
theorem contains_is {w : World} {A : Option Addr} {c : Nat} {xs : List Int} (h : Rd w (.slice A xs.length c) 1 encI xs) (hl : xs.length ≤ 1000) (n : Int) : Calls Try.prog 100 #[.slice A xs.length c, .int .i64 n] w fun e w' => e = .returned (.bool (decide (n ∈ xs))) ∧ Below w.heap.size w w' := by
  by_cases hn : n ∈ xs
  · skip
    refine enter (args := [.slice A xs.length c, .int .i64 n]) (fn := Try.f100) rfl (c := bdy Try.f100) (by kernel_rfl) ?_
    have hm := (idxR_mem n xs 0).2 hn
    refine ck 3 [] [] fun γ1 => ⟨⟨kt (bdy Try.f100) [1, 0, 2] [], (sc0_l0 A c xs n), []⟩, [], [], by kernel_rfl, .nil, ?_⟩
    refine cp (fun W hW => index_is (h.below (hW.old 0 rfl)) (by omega) n) ?_
    refine ck 2 [] [(0, .bool true)] fun γ2 => ⟨⟨kt (bdy Try.f100) [1, 1] [], upv (sc0_l0 A c xs n) [(4, .bool true), (7, .int .i64 (idxR n xs 0)), (8, .bool true)], []⟩, [], [Value.bool (decide (((idxR n xs 0) : Int) ≥ 0)) = .bool true], by kernel_rfl, (.cons (cbT hm) .nil), ?_⟩
    refine rt (.bool true) [] [] (fun W hW => ?_)
    exact ⟨by rw [decide_eq_true hn], (hW.old 0 rfl)⟩
  · skip
    refine enter (args := [.slice A xs.length c, .int .i64 n]) (fn := Try.f100) rfl (c := bdy Try.f100) (by kernel_rfl) ?_
    have hm := fun hq => hn ((idxR_mem n xs 0).1 hq)
    refine ck 3 [] [] fun γ1 => ⟨⟨kt (bdy Try.f100) [1, 0, 2] [], (sc1_l0 A c xs n), []⟩, [], [], by kernel_rfl, .nil, ?_⟩
    refine cp (fun W hW => index_is (h.below (hW.old 0 rfl)) (by omega) n) ?_
    refine ck 2 [] [(0, .bool false)] fun γ2 => ⟨⟨kt (bdy Try.f100) [1, 1] [], upv (sc1_l0 A c xs n) [(7, .int .i64 (idxR n xs 0)), (8, .bool false)], []⟩, [], [Value.bool (decide (((idxR n xs 0) : Int) ≥ 0)) = .bool false], by kernel_rfl, (.cons (cbF hm) .nil), ?_⟩
    refine rt (.bool false) [] [] (fun W hW => ?_)
    exact ⟨by rw [decide_eq_false hn], (hW.old 0 rfl)⟩
theorem gF3 (mn old : Int) (xs : List Int) (x : Int × Int × Int) (i : Nat) : gF 3 mn old xs x i = decide ((i : Int) < old) := by
  unfold gF
  rw [if_neg (by decide), if_neg (by decide), if_pos rfl]
theorem sel_congr {g g' : Int × Int × Int → Nat → Bool} {N : Nat} (h : ∀ x i, i < N → g x i = g' x i) : ∀ (l : List (Int × Int × Int)) (i : Nat), i + l.length ≤ N → selF g l i = selF g' l i
  | [], _, _ => rfl
  | x :: l, i, hl => by
    simp only [List.length_cons] at hl
    simp only [selF]
    rw [sel_congr h l (i + 1) (by omega), h x i (by omega)]
theorem sel_take (o : Nat) : ∀ (l : List (Int × Int × Int)) (i : Nat), selF (fun _ j => decide ((j : Int) < (o : Int))) l i = l.take (o - i)
  | [], i => by simp [selF]
  | x :: l, i => by
    simp only [selF]
    rw [sel_take o l (i + 1)]
    by_cases h : ((i : Int) < (o : Int))
    · rw [if_pos (decide_eq_true h), show o - i = (o - (i + 1)) + 1 by omega, List.take_succ_cons]
    · rw [if_neg (by rw [decide_eq_false h]; exact Bool.false_ne_true), show o - i = 0 by omega, show o - (i + 1) = 0 by omega]
      simp
theorem sel_drop (o : Nat) : ∀ (l : List (Int × Int × Int)) (i : Nat), selF (fun _ j => !decide ((j : Int) < (o : Int))) l i = l.drop (o - i)
  | [], i => by simp [selF]
  | x :: l, i => by
    simp only [selF]
    rw [sel_drop o l (i + 1)]
    by_cases h : ((i : Int) < (o : Int))
    · rw [if_neg (by rw [decide_eq_true h]; exact Bool.false_ne_true), show o - i = (o - (i + 1)) + 1 by omega, List.drop_succ_cons]
    · rw [if_pos (by rw [decide_eq_false h]; rfl), show o - i = 0 by omega, show o - (i + 1) = 0 by omega]
      simp
theorem clamp_nat (old : Int) (n : Nat) : ∃ k : Nat, clampF old 0 (n : Int) = (k : Int) ∧ k ≤ n ∧ ∀ i : Nat, i < n → ((i : Int) < old ↔ (i : Int) < (k : Int)) := by
  unfold clampF
  split
  · exact ⟨0, rfl, Nat.zero_le _, fun i _ => by omega⟩
  · split
    · exact ⟨n, rfl, Nat.le_refl _, fun i _ => by omega⟩
    · exact ⟨old.toNat, by omega, by omega, fun i _ => by omega⟩
theorem quiet_take {old : Int} {l : List (Int × Int × Int)} {k : Nat} (mn : Int) (xs : List Int) (h : ∀ i : Nat, i < l.length → ((i : Int) < old ↔ (i : Int) < (k : Int))) : selF (gF 3 mn old xs) l 0 = l.take k ∧ selF (nF (gF 3 mn old xs)) l 0 = l.drop k := by
  have e : ∀ (x : Int × Int × Int) (i : Nat), i < l.length → gF 3 mn old xs x i = decide ((i : Int) < (k : Int)) := fun x i hi => by
    rw [gF3]
    exact decide_eq_decide.2 (h i hi)
  refine ⟨?_, ?_⟩
  · rw [sel_congr (N := l.length) e l 0 (by omega), sel_take]
    rfl
  · rw [sel_congr (N := l.length) (g' := fun _ j => !decide ((j : Int) < (k : Int))) (fun x i hi => by unfold nF; rw [e x i hi]) l 0 (by omega), sel_drop]
    rfl
def add_is_l0 (a : Int) (b : Int) : List Value := [.int .i64 a, .int .i64 b, zz, zz, .int .i64 (IntKind.wrap .i64 (a + b)), .int .i64 a, .int .i64 b, .int .i64 (IntKind.wrap .i64 (a + b))]
set_option maxHeartbeats 8000000 in
set_option maxRecDepth 100000 in
theorem add_is (a b : Int) (w : World) : Calls Try.prog 107 #[.int .i64 a, .int .i64 b] w fun e w' => e = .returned (.int .i64 (IntKind.wrap .i64 (a + b))) ∧ Below w.heap.size w w' := by
  refine enter (args := [.int .i64 a, .int .i64 b]) (fn := Try.f107) rfl (c := bdy Try.f107) (by kernel_rfl) ?_
  refine ck 5 [] [] fun γ1 => ⟨⟨kt (bdy Try.f107) [1, 1] [], (add_is_l0 a b), []⟩, [], [], by kernel_rfl, .nil, ?_⟩
  refine rt (.int .i64 (IntKind.wrap .i64 (a + b))) [] [] (fun W hW => ?_)
  exact ⟨rfl, (hW.old 0 rfl)⟩
def sub_is_l0 (a : Int) (b : Int) : List Value := [.int .i64 a, .int .i64 b, zz, zz, .int .i64 (IntKind.wrap .i64 (a - b)), .int .i64 a, .int .i64 b, .int .i64 (IntKind.wrap .i64 (a - b))]
set_option maxHeartbeats 8000000 in
set_option maxRecDepth 100000 in
theorem sub_is (a b : Int) (w : World) : Calls Try.prog 101 #[.int .i64 a, .int .i64 b] w fun e w' => e = .returned (.int .i64 (IntKind.wrap .i64 (a - b))) ∧ Below w.heap.size w w' := by
  refine enter (args := [.int .i64 a, .int .i64 b]) (fn := Try.f101) rfl (c := bdy Try.f101) (by kernel_rfl) ?_
  refine ck 5 [] [] fun γ1 => ⟨⟨kt (bdy Try.f101) [1, 1] [], (sub_is_l0 a b), []⟩, [], [], by kernel_rfl, .nil, ?_⟩
  refine rt (.int .i64 (IntKind.wrap .i64 (a - b))) [] [] (fun W hW => ?_)
  exact ⟨rfl, (hW.old 0 rfl)⟩
def mul_is_l0 (a : Int) (b : Int) : List Value := [.int .i64 a, .int .i64 b, zz, zz, .int .i64 (IntKind.wrap .i64 (a * b)), .int .i64 a, .int .i64 b, .int .i64 (IntKind.wrap .i64 (a * b))]
set_option maxHeartbeats 8000000 in
set_option maxRecDepth 100000 in
theorem mul_is (a b : Int) (w : World) : Calls Try.prog 108 #[.int .i64 a, .int .i64 b] w fun e w' => e = .returned (.int .i64 (IntKind.wrap .i64 (a * b))) ∧ Below w.heap.size w w' := by
  refine enter (args := [.int .i64 a, .int .i64 b]) (fn := Try.f108) rfl (c := bdy Try.f108) (by kernel_rfl) ?_
  refine ck 5 [] [] fun γ1 => ⟨⟨kt (bdy Try.f108) [1, 1] [], (mul_is_l0 a b), []⟩, [], [], by kernel_rfl, .nil, ?_⟩
  refine rt (.int .i64 (IntKind.wrap .i64 (a * b))) [] [] (fun W hW => ?_)
  exact ⟨rfl, (hW.old 0 rfl)⟩
def relT (t : Th) (s b n : RV) (o : Int) : Th := ⟨t.pc, t.fu, t.st, t.R, 0, 0, 0, s, b, n, o⟩
end Go.Proofs.Ythcmcekjgecnhab.Sr
