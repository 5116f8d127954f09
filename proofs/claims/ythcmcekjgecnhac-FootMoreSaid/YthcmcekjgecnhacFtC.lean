/- The layer is alive. No condition beside those that each theorem names. -/
import Derived.Test.YthcmcekjgecnhacFtD
namespace Go.Proofs.Ythcmcekjgecnhac.Sr
open Go.RowKit Go.Proofs.YthcmcekjgecnhacM.Mach
set_option linter.unusedVariables false
set_option linter.unusedSimpArgs false
def al_l0 (γ1 : Nat → Nat) : List Value := [.bool false, .slice (some ⟨γ1 2, 0, none⟩) 1 1, .slice (some ⟨γ1 6, 0, none⟩) 2 2, zz, .agg #[.int .i64 1, .int .i64 0, .int .i64 0], .slice (some ⟨γ1 2, 0, none⟩) 1 1, .agg #[.int .i64 1, .int .i64 0, .int .i64 0], .agg #[.int .i64 1, .int .i64 0, .int .i64 0], .slice (some ⟨γ1 6, 0, none⟩) 2 2, .slice (some ⟨γ1 6, 0, none⟩) 2 2, zz, zz, zz, zz, zz, zz]
def al_l1 : List Value := [zz, zz, zz, zz, zz, zz, zz, zz, zz, zz, zz, zz, zz, zz, zz, zz]
def al_l2 : List Value := [zz, zz, zz, zz, zz, zz, zz, zz, zz]
def al_b3 (γ1 : Nat → Nat) : List Value := (al_l0 γ1) ++ (al_l1 ++ (al_l2))
def al_c4 : List Value := [.int .i64 1, .int .i64 0, .int .i64 0, .int .i64 1, .int .i64 0, .int .i64 0]
def al_c5 : List Value := [.int .i64 1, .int .i64 0, .int .i64 0]
def al_c6 (u2 : Option Addr) (u3 : Nat) (u4 : Option Addr) (u5 : Nat) : List Value := [.slice u2 1 u3, .slice u4 0 u5]
def al_l7 (γ1 : Nat → Nat) (u2 : Option Addr) (u3 : Nat) (u4 : Option Addr) (u5 : Nat) (γ6 : Nat → Nat) (u7 : Option Addr) (u8 : Nat) (u9 : Option Addr) (u10 : Nat) : List Value := [.bool true, .slice (some ⟨γ1 2, 0, none⟩) 1 1, .slice (some ⟨γ1 6, 0, none⟩) 2 2, .pointer (some ⟨γ6 0, 0, none⟩), .agg #[.int .i64 1, .int .i64 0, .int .i64 0], .slice (some ⟨γ1 2, 0, none⟩) 1 1, .agg #[.int .i64 1, .int .i64 0, .int .i64 0], .agg #[.int .i64 1, .int .i64 0, .int .i64 0], .slice (some ⟨γ1 6, 0, none⟩) 2 2, .slice (some ⟨γ1 6, 0, none⟩) 2 2, .agg #[.slice u2 1 u3, .slice u4 0 u5], .agg #[.slice u2 1 u3, .slice u4 0 u5], .slice (some ⟨γ1 2, 0, none⟩) 1 1, .agg #[.slice u7 0 u8, .slice u9 1 u10], .bool true, .bool true]
def al_l8 (u2 : Option Addr) (u3 : Nat) (u4 : Option Addr) (u5 : Nat) (γ6 : Nat → Nat) : List Value := [.agg #[.slice u2 1 u3, .slice u4 0 u5], .agg #[.slice u2 1 u3, .slice u4 0 u5], .bool false, .bool true, .bool true, .bool true, .pointer (some ⟨γ6 0, 0, none⟩), .slice u2 1 u3, .int .i64 1, .bool true, .bool true, .bool true, .agg #[.slice u2 1 u3, .slice u4 0 u5], .agg #[.slice u2 1 u3, .slice u4 0 u5], .bool true, .bool true]
def al_l9 (γ1 : Nat → Nat) (u2 : Option Addr) (u3 : Nat) (u4 : Option Addr) (u5 : Nat) (u11 : Option Addr) (u12 : Nat) (u13 : Option Addr) (u14 : Nat) (u15 : Option Addr) (u16 : Nat) (u17 : Option Addr) (u18 : Nat) : List Value := [.bool true, .agg #[.slice u2 1 u3, .slice u4 0 u5], .slice (some ⟨γ1 2, 0, none⟩) 1 1, .agg #[.slice u11 0 u12, .slice u13 1 u14], .agg #[.slice u15 1 u16, .slice u17 1 u18], .slice u17 1 u18, .int .i64 1, .bool true, .bool true]
def al_b10 (γ1 : Nat → Nat) (u2 : Option Addr) (u3 : Nat) (u4 : Option Addr) (u5 : Nat) (γ6 : Nat → Nat) (u7 : Option Addr) (u8 : Nat) (u9 : Option Addr) (u10 : Nat) (u11 : Option Addr) (u12 : Nat) (u13 : Option Addr) (u14 : Nat) (u15 : Option Addr) (u16 : Nat) (u17 : Option Addr) (u18 : Nat) : List Value := (al_l7 γ1 u2 u3 u4 u5 γ6 u7 u8 u9 u10) ++ ((al_l8 u2 u3 u4 u5 γ6) ++ ((al_l9 γ1 u2 u3 u4 u5 u11 u12 u13 u14 u15 u16 u17 u18)))
set_option maxHeartbeats 8000000 in
set_option maxRecDepth 100000 in
theorem alive_is (w : World) : Calls Try.prog 9 #[] w fun e w' => e = .returned (.bool true) ∧ Below w.heap.size w w' := by
  refine enter (args := []) (fn := Try.f9) rfl (c := bdy Try.f9) (by kernel_rfl) ?_
  refine ck 9 [] [] fun γ1 => ⟨⟨kt (bdy Try.f9) [1, 1, 1, 0, 1] [], (al_b3 γ1), [(γ1 6, 46, al_c4), (γ1 2, 46, al_c5)]⟩, [], [], by kernel_rfl, .nil, ?_⟩
  refine torow 0 (g := (γ1 6)) (e := 46) (cs := al_c4) (n := 2) (sz := 3) (([(1, 0, 0), (1, 0, 0)] : List (Int × Int × Int)).flatMap encT46) rfl (by decide) (by kernel_rfl) ?_
  refine cf (fun W hW => aun_al11 γ1 (own_rd encT46_len (hW.at 0 rfl)) (by first | omega | (simp only [List.length_append, List.length_cons, List.length_nil]; omega) | simp)) ?_
  rintro ⟨u2, u3, u4, u5⟩
  refine ck 2 [(2, 0)] [] fun γ6 => ⟨⟨kt (bdy Try.f9) [1, 1, 1, 1, 0] [], upv (al_b3 γ1) [(3, .pointer (some ⟨γ6 0, 0, none⟩)), (10, .agg #[.slice u2 1 u3, .slice u4 0 u5])], [(γ6 0, 24, (al_c6 u2 u3 u4 u5)), (γ1 2, 46, al_c5)]⟩, [(2, γ6 0)], [], by kernel_rfl, .nil, ?_⟩
  refine torow 1 (g := (γ1 2)) (e := 46) (cs := al_c5) (n := 1) (sz := 3) (([(1, 0, 0)] : List (Int × Int × Int)).flatMap encT46) rfl (by decide) (by kernel_rfl) ?_
  refine dr [] [] .nil ?_
  refine df [0, 1] [(2, 0)] [] [(2, γ6 0)] [] .nil ?_
  refine df' 2 (fun W hW => aun_al12 γ1 (own_rd encT46_len (hW.at 0 rfl)) (by first | omega | (simp only [List.length_append, List.length_cons, List.length_nil]; omega) | simp)) ?_
  rintro ⟨u7, u8, u9, u10⟩
  refine dp 3 (fun W hW => aun_al13 u2 u3 u4 u5 u7 u8 u9 u10 (own_rd encT46_len (hW.at 4 rfl)) (by first | omega | (simp only [List.length_append, List.length_cons, List.length_nil]; omega) | simp) (own_rd encT46_len (hW.at 3 rfl)) (by first | omega | (simp only [List.length_append, List.length_cons, List.length_nil]; omega) | simp) (own_rd encT46_len (hW.at 1 rfl)) (by first | omega | (simp only [List.length_append, List.length_cons, List.length_nil]; omega) | simp) (own_rd encT46_len (hW.at 0 rfl)) (by first | omega | (simp only [List.length_append, List.length_cons, List.length_nil]; omega) | simp)) ?_
  refine df [4, 5, 6] [(4, 0)] [] [(4, γ6 0)] [] .nil ?_
  refine dp 7 (fun W hW => aun_al14 u2 u3 u4 u5 (own_rd encT46_len (hW.at 4 rfl)) (by first | omega | (simp only [List.length_append, List.length_cons, List.length_nil]; omega) | simp) (own_rd encT46_len (hW.at 3 rfl)) (by first | omega | (simp only [List.length_append, List.length_cons, List.length_nil]; omega) | simp)) ?_
  refine df [8, 9, 10, 11, 12, 13, 14, 15, 16, 17, 18] [(5, 0)] [] [(5, γ6 0)] [] .nil ?_
  refine dp 19 (fun W hW => aun_al15 u2 u3 u4 u5 (own_rd encT46_len (hW.at 4 rfl)) (by first | omega | (simp only [List.length_append, List.length_cons, List.length_nil]; omega) | simp) (own_rd encT46_len (hW.at 3 rfl)) (by first | omega | (simp only [List.length_append, List.length_cons, List.length_nil]; omega) | simp)) ?_
  refine df [20, 21, 22, 23] [(2, 0)] [] [(2, γ6 0)] [] .nil ?_
  refine df' 24 (fun W hW => aun_al12 γ1 (own_rd encT46_len (hW.at 2 rfl)) (by first | omega | (simp only [List.length_append, List.length_cons, List.length_nil]; omega) | simp)) ?_
  rintro ⟨u11, u12, u13, u14⟩
  refine df' 25 (fun W hW => aun_al17 u2 u3 u4 u5 u11 u12 u13 u14 (own_rd encT46_len (hW.at 6 rfl)) (by first | omega | (simp only [List.length_append, List.length_cons, List.length_nil]; omega) | simp) (own_rd encT46_len (hW.at 5 rfl)) (by first | omega | (simp only [List.length_append, List.length_cons, List.length_nil]; omega) | simp) (own_rd encT46_len (hW.at 1 rfl)) (by first | omega | (simp only [List.length_append, List.length_cons, List.length_nil]; omega) | simp) (own_rd encT46_len (hW.at 0 rfl)) (by first | omega | (simp only [List.length_append, List.length_cons, List.length_nil]; omega) | simp)) ?_
  rintro ⟨u15, u16, u17, u18⟩
  refine df [26, 27, 28, 29, 30] [] [] [] [] .nil ?_
  refine de (fs := (kt (bdy Try.f9) [1, 1, 1, 1, 0] []).tail) ?_
  refine st0 (fs := (kt (bdy Try.f9) [1, 1, 1, 1, 0] []).tail) ((al_b10 γ1 u2 u3 u4 u5 γ6 u7 u8 u9 u10 u11 u12 u13 u14 u15 u16 u17 u18)) [(γ6 0, 24, (al_c6 u2 u3 u4 u5))] ?_
  refine rt (.bool true) [] [] (fun W hW => ?_)
  exact ⟨rfl, (hW.old 10 rfl)⟩
end Go.Proofs.Ythcmcekjgecnhac.Sr
