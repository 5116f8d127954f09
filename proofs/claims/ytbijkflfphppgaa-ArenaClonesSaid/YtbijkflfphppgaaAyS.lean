/- Copies of rows. No condition beside those that each theorem names. -/
import Derived.Test.YtbijkflfphppgaaAyR
import Derived.Test.YtbijkflfphppgaaAwR
namespace Go.Proofs.Ytbijkflfphppgaa.Sr
open Go.RowKit Go.Proofs.YtbijkflfphppgaaM.Mach
set_option linter.unusedVariables false
set_option linter.unusedSimpArgs false
def cloneI_n_l0 (c : Nat) (xs : List (Int)) : List Value := [.slice none xs.length c, zz, .slice none 0 0, .slice none xs.length c, .bool true, zz, zz, zz]
def cloneI_s_l0 (ad : Addr) (c : Nat) (xs : List (Int)) (γ1 : Nat → Nat) : List Value := [.slice (some ad) xs.length c, zz, .slice none 0 0, .slice (some ad) xs.length c, .bool false, .slice (some ⟨γ1 3, 0, none⟩) 0 0, .slice (some ad) xs.length c, zz]
set_option maxHeartbeats 8000000 in
set_option maxRecDepth 100000 in
theorem cloneI0 {w : World} {A : Option Addr} {c : Nat} {xs : List (Int)} (h : Rd w (.slice A xs.length c) 1 encT3 xs) (hl : xs.length ≤ 1000) : Calls Try.prog 33 #[.slice A xs.length c] w fun e w' => ∃ r : Option Addr × Nat, e = .returned (.slice r.1 xs.length r.2) ∧ Fresh w w' [rowA 3 1 (.slice r.1 xs.length r.2) xs.length (xs.flatMap encT3)] := by
  rcases A with _ | ad
  · skip
    have hl0 : xs = [] := by
      obtain ⟨A, c', e0, hc, hA⟩ := h
      cases e0
      rcases hA with h | ⟨B, o, h, _⟩
      · exact h
      · cases h
    refine enter (args := [.slice none xs.length c]) (fn := Try.f33) rfl (c := bdy Try.f33) (by kernel_rfl) ?_
    refine ck 4 [] [] fun γ1 => ⟨⟨kt (bdy Try.f33) [1, 0, 1, 0, 1] [], (cloneI_n_l0 c xs), []⟩, [], [], by kernel_rfl, .nil, ?_⟩
    subst hl0
    refine nilrow 3 1 ?_
    refine rt (.slice none 0 0) [] [] (fun W hW => ⟨(none, 0), rfl, Fresh.of hW (.cons_cons _ (.cons_cons _ .slnil))⟩)
  · skip
    refine enter (args := [.slice (some ad) xs.length c]) (fn := Try.f33) rfl (c := bdy Try.f33) (by kernel_rfl) ?_
    refine ck 5 [] [] fun γ1 => ⟨⟨kt (bdy Try.f33) [1, 1, 0, 2] [], (cloneI_s_l0 ad c xs γ1), [(γ1 3, 3, [])]⟩, [], [], by kernel_rfl, .nil, ?_⟩
    refine zrow 3 1 (some ⟨γ1 3, 0, none⟩) ?_
    refine aps (enc := encT3) (l := xs) 0 8 rfl (fun W hW => (h.below (hW.old 1 rfl))) encT3_len encT3_cell (by first | omega | (simp only [List.length_append, List.length_cons, List.length_nil]; omega)) (by simp only [maxLen]; first | omega | (simp only [List.length_append, List.length_cons, List.length_nil]; omega)) (xs.length) (xs.flatMap encT3) (by first | rfl | (simp; done) | (simp only [List.length_append, List.length_cons, List.length_nil]; omega) | (simp; omega)) (by simp) fun A2 c2 => ?_
    refine ck 1 [] [] fun γ3 => ⟨⟨kt (bdy Try.f33) [1, 1, 1] [], upv (cloneI_s_l0 ad c xs γ1) [(2, .slice A2 xs.length c2), (7, .slice A2 xs.length c2)], [(γ1 3, 3, [])]⟩, [], [], by kernel_rfl, .nil, ?_⟩
    refine rt (.slice A2 xs.length c2) [] [] (fun W hW => ?_)
    exact ⟨(A2, c2), rfl, Fresh.of hW (.cons_cons _ (.cons_cons _ .slnil))⟩
theorem cloneI {w : World} {A : Option Addr} {c n : Nat} {xs : List (Int)} (hn : xs.length = n) (h : Rd w (.slice A n c) 1 encT3 xs) (hl : n ≤ 1000) : Calls Try.prog 33 #[.slice A n c] w fun e w' => ∃ r : Option Addr × Nat, e = .returned (.slice r.1 n r.2) ∧ Fresh w w' [rowA 3 1 (.slice r.1 n r.2) n (xs.flatMap encT3)] := by
  subst hn
  exact cloneI0 h hl
def cloneC_n_l0 (c : Nat) (xs : List (C10)) : List Value := [.slice none xs.length c, zz, .slice none 0 0, .slice none xs.length c, .bool true, zz, zz, zz]
def cloneC_s_l0 (ad : Addr) (c : Nat) (xs : List (C10)) (γ1 : Nat → Nat) : List Value := [.slice (some ad) xs.length c, zz, .slice none 0 0, .slice (some ad) xs.length c, .bool false, .slice (some ⟨γ1 3, 0, none⟩) 0 0, .slice (some ad) xs.length c, zz]
set_option maxHeartbeats 8000000 in
set_option maxRecDepth 100000 in
theorem cloneC0 {w : World} {A : Option Addr} {c : Nat} {xs : List (C10)} (h : Rd w (.slice A xs.length c) 10 encT43 xs) (hl : xs.length ≤ 1000) : Calls Try.prog 34 #[.slice A xs.length c] w fun e w' => ∃ r : Option Addr × Nat, e = .returned (.slice r.1 xs.length r.2) ∧ Fresh w w' [rowA 43 10 (.slice r.1 xs.length r.2) xs.length (xs.flatMap encT43)] := by
  rcases A with _ | ad
  · skip
    have hl0 : xs = [] := by
      obtain ⟨A, c', e0, hc, hA⟩ := h
      cases e0
      rcases hA with h | ⟨B, o, h, _⟩
      · exact h
      · cases h
    refine enter (args := [.slice none xs.length c]) (fn := Try.f34) rfl (c := bdy Try.f34) (by kernel_rfl) ?_
    refine ck 4 [] [] fun γ1 => ⟨⟨kt (bdy Try.f34) [1, 0, 1, 0, 1] [], (cloneC_n_l0 c xs), []⟩, [], [], by kernel_rfl, .nil, ?_⟩
    subst hl0
    refine nilrow 43 10 ?_
    refine rt (.slice none 0 0) [] [] (fun W hW => ⟨(none, 0), rfl, Fresh.of hW (.cons_cons _ (.cons_cons _ .slnil))⟩)
  · skip
    refine enter (args := [.slice (some ad) xs.length c]) (fn := Try.f34) rfl (c := bdy Try.f34) (by kernel_rfl) ?_
    refine ck 5 [] [] fun γ1 => ⟨⟨kt (bdy Try.f34) [1, 1, 0, 2] [], (cloneC_s_l0 ad c xs γ1), [(γ1 3, 43, [])]⟩, [], [], by kernel_rfl, .nil, ?_⟩
    refine zrow 43 10 (some ⟨γ1 3, 0, none⟩) ?_
    refine aps (enc := encT43) (l := xs) 0 80 rfl (fun W hW => (h.below (hW.old 1 rfl))) encT43_len encT43_cell (by first | omega | (simp only [List.length_append, List.length_cons, List.length_nil]; omega)) (by simp only [maxLen]; first | omega | (simp only [List.length_append, List.length_cons, List.length_nil]; omega)) (xs.length) (xs.flatMap encT43) (by first | rfl | (simp; done) | (simp only [List.length_append, List.length_cons, List.length_nil]; omega) | (simp; omega)) (by simp) fun A2 c2 => ?_
    refine ck 1 [] [] fun γ3 => ⟨⟨kt (bdy Try.f34) [1, 1, 1] [], upv (cloneC_s_l0 ad c xs γ1) [(2, .slice A2 xs.length c2), (7, .slice A2 xs.length c2)], [(γ1 3, 43, [])]⟩, [], [], by kernel_rfl, .nil, ?_⟩
    refine rt (.slice A2 xs.length c2) [] [] (fun W hW => ?_)
    exact ⟨(A2, c2), rfl, Fresh.of hW (.cons_cons _ (.cons_cons _ .slnil))⟩
theorem cloneC {w : World} {A : Option Addr} {c n : Nat} {xs : List (C10)} (hn : xs.length = n) (h : Rd w (.slice A n c) 10 encT43 xs) (hl : n ≤ 1000) : Calls Try.prog 34 #[.slice A n c] w fun e w' => ∃ r : Option Addr × Nat, e = .returned (.slice r.1 n r.2) ∧ Fresh w w' [rowA 43 10 (.slice r.1 n r.2) n (xs.flatMap encT43)] := by
  subst hn
  exact cloneC0 h hl
def encT38 (x : Int × Int × Int × Int × Int × Int × Int × Int) : List Value := [.int .i64 x.1, .int .i64 x.2.1, .int .i64 x.2.2.1, .int .i64 x.2.2.2.1, .int .i64 x.2.2.2.2.1, .int .i64 x.2.2.2.2.2.1, .int .i64 x.2.2.2.2.2.2.1, .int .i64 x.2.2.2.2.2.2.2]
theorem encT38_len (x : Int × Int × Int × Int × Int × Int × Int × Int) : (encT38 x).length = 8 := rfl
theorem encT38_cell (x : Int × Int × Int × Int × Int × Int × Int × Int) : ∀ u ∈ encT38 x, cellV u = true := by
  intro u hu
  simp only [encT38, List.mem_cons, List.not_mem_nil, or_false] at hu
  rcases hu with rfl | rfl | rfl | rfl | rfl | rfl | rfl | rfl <;> rfl
end Go.Proofs.Ytbijkflfphppgaa.Sr
