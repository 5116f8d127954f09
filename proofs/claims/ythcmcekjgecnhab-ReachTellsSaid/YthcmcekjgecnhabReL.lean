/- The walk of the law ReachTells. No condition beside those that each theorem names. -/
import Derived.Test.YthcmcekjgecnhabReH
namespace Go.Proofs.Ythcmcekjgecnhab.Sr
open Go.RowKit Go.Proofs.YthcmcekjgecnhabM.Mach
set_option linter.unusedVariables false
set_option linter.unusedSimpArgs false
def lt_l0 (Aw : Option Addr) (nw : Nat) (kw : Nat) (Ac : Option Addr) (nc : Nat) (kc : Nat) : List Value := [.slice Aw nw kw, .slice Ac nc kc, zz, zz, .bool false, zz, zz, zz, zz, zz, zz, zz, zz, zz, zz, zz]
def lt_l1 : List Value := [zz, zz]
def lt_b2 (Aw : Option Addr) (nw : Nat) (kw : Nat) (Ac : Option Addr) (nc : Nat) (kc : Nat) : List Value := (lt_l0 Aw nw kw Ac nc kc) ++ (lt_l1)
def lt_l3 (lw : List W3) (Aw : Option Addr) (nw : Nat) (kw : Nat) (cl : List C10) (Ac : Option Addr) (nc : Nat) (kc : Nat) (A5 : Option Addr) (c5 : Nat) : List Value := [.slice Aw lw.length kw, .slice Ac cl.length kc, zz, zz, .bool false, .bool true, .bool false, .slice Aw nw kw, .slice Aw lw.length kw, .slice Ac nc kc, .slice Ac cl.length kc, .slice Aw lw.length kw, .slice Ac cl.length kc, .slice A5 cl.length c5, .slice Aw lw.length kw, .slice Ac cl.length kc]
def lt_b4 (lw : List W3) (Aw : Option Addr) (nw : Nat) (kw : Nat) (cl : List C10) (Ac : Option Addr) (nc : Nat) (kc : Nat) (A5 : Option Addr) (c5 : Nat) : List Value := (lt_l3 lw Aw nw kw cl Ac nc kc A5 c5) ++ (lt_l1)
set_option maxHeartbeats 8000000 in
set_option maxRecDepth 100000 in
theorem law_tells {w : World} {lw : List W3} {Aw : Option Addr} {nw kw : Nat} {cl : List C10} {Ac : Option Addr} {nc kc : Nat} (hf : ∀ W : World, Calls Try.prog 10 #[.slice Aw nw kw] W fun e w' => e = .returned (.slice Aw lw.length kw) ∧ Below W.heap.size W w') (hs : ∀ W : World, Calls Try.prog 11 #[.slice Ac nc kc] W fun e w' => e = .returned (.slice Ac cl.length kc) ∧ Below W.heap.size W w') (hw : Rd w (.slice Aw lw.length kw) 3 encT35 lw) (hlw : lw.length ≤ 8) (hc : Rd w (.slice Ac cl.length kc) 10 encT38 cl) (hcl : cl.length ≤ 8) : Calls Try.prog 3 #[.slice Aw nw kw, .slice Ac nc kc] w fun e w' => e = .returned (.bool true) ∧ Below w.heap.size w w' := by
  refine enter (args := [.slice Aw nw kw, .slice Ac nc kc]) (fn := Try.f3) rfl (c := bdy Try.f3) (by kernel_rfl) ?_
  refine ck 1 [] [] fun γ1 => ⟨⟨kt (bdy Try.f3) [1, 0, 0, 0] [], (lt_b2 Aw nw kw Ac nc kc), []⟩, [], [], by kernel_rfl, .nil, ?_⟩
  refine cp (fun W hW => alive_is W) ?_
  refine ck 2 [] [] fun γ2 => ⟨⟨kt (bdy Try.f3) [1, 1, 0, 1] [], upv (lt_b2 Aw nw kw Ac nc kc) [(5, .bool true), (6, .bool false), (7, .slice Aw nw kw)], []⟩, [], [], by kernel_rfl, .nil, ?_⟩
  refine cp (fun W hW => hf W) ?_
  refine ck 1 [] [] fun γ3 => ⟨⟨kt (bdy Try.f3) [1, 1, 0, 3] [], upv (lt_b2 Aw nw kw Ac nc kc) [(5, .bool true), (6, .bool false), (7, .slice Aw nw kw), (8, .slice Aw lw.length kw), (9, .slice Ac nc kc)], []⟩, [], [], by kernel_rfl, .nil, ?_⟩
  refine cp (fun W hW => hs W) ?_
  refine ck 4 [] [] fun γ4 => ⟨⟨kt (bdy Try.f3) [1, 1, 1, 0, 2] [], upv (lt_b2 Aw nw kw Ac nc kc) [(0, .slice Aw lw.length kw), (1, .slice Ac cl.length kc), (5, .bool true), (6, .bool false), (7, .slice Aw nw kw), (8, .slice Aw lw.length kw), (9, .slice Ac nc kc), (10, .slice Ac cl.length kc), (11, .slice Aw lw.length kw), (12, .slice Ac cl.length kc)], []⟩, [], [], by kernel_rfl, .nil, ?_⟩
  refine cf (fun W hW => reached_is (lw := lw) (hw.below (hW.old 0 rfl)) (by first | omega | (simp only [List.length_append, List.length_cons, List.length_nil]; omega)) (hc.below (hW.old 0 rfl)) (by omega)) ?_
  rintro ⟨⟨⟨A5, c5⟩, b5⟩, hb5⟩
  have hl5 : b5.length = cl.length := hb5.1
  refine ck 2 [] [] fun γ6 => ⟨⟨kt (bdy Try.f3) [1, 1, 1, 0, 5] [], (lt_b4 lw Aw nw kw cl Ac nc kc A5 c5), []⟩, [], [], by kernel_rfl, .nil, ?_⟩
  refine cf (fun W hW => refreached_is (lw := lw) (hw.below (hW.old 1 rfl)) (by first | omega | (simp only [List.length_append, List.length_cons, List.length_nil]; omega)) (hc.below (hW.old 1 rfl)) (by omega)) ?_
  rintro ⟨⟨⟨A7, c7⟩, b7⟩, hb7⟩
  have hl7 : b7.length = cl.length := hb7.1
  obtain rfl := reachs_eq hb5 hb7
  refine cp (fun W hW => bools_n (xs := b5) hb5.1 (own_rdn encT4_len (l := b5) (by first | omega | (simp only [List.length_set]; omega) | simp) (hW.at 1 rfl)) (own_rdn encT4_len (l := b5) (by first | omega | (simp only [List.length_set]; omega) | simp) (hW.at 0 rfl)) (by rw [hb5.1]; omega)) ?_
  refine ck 1 [] [] fun γ8 => ⟨⟨kt (bdy Try.f3) [1, 1, 1, 1] [], upv (lt_b4 lw Aw nw kw cl Ac nc kc A5 c5) [(4, .bool true), (16, .slice A7 cl.length c7), (17, .bool true)], []⟩, [], [], by kernel_rfl, .nil, ?_⟩
  refine rt (.bool true) [] [] (fun W hW => ?_)
  exact ⟨rfl, (hW.old 2 rfl)⟩
end Go.Proofs.Ythcmcekjgecnhab.Sr
