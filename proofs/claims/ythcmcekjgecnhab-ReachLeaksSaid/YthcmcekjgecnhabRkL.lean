/- The walk of the law ReachLeaks. No condition beside those that each theorem names. -/
import Derived.Test.YthcmcekjgecnhabRkE
namespace Go.Proofs.Ythcmcekjgecnhab.Sr
open Go.RowKit Go.Proofs.YthcmcekjgecnhabM.Mach
set_option linter.unusedVariables false
set_option linter.unusedSimpArgs false
theorem keys_refl {w : World} {A A1 : Option Addr} {c c1 : Nat} {xs : List P3} (h : Rd w (.slice A xs.length c) 3 encT71 xs) (h1 : Rd w (.slice A1 xs.length c1) 3 encT71 xs) (hl : xs.length ≤ 1000) : Calls Try.prog 15 #[.slice A xs.length c, .slice A1 xs.length c1] w fun e w' => e = .returned (.bool true) ∧ Below w.heap.size w w' := by
  have h2 := keys_is h h1 hl hl
  rwa [decide_eq_true rfl] at h2
def ll_l0 (Aw : Option Addr) (nw : Nat) (kw : Nat) (Ac : Option Addr) (nc : Nat) (kc : Nat) : List Value := [.slice Aw nw kw, .slice Ac nc kc, zz, zz, .bool false, zz, zz, zz, zz, zz, zz, zz, zz, zz, zz, zz]
def ll_l1 : List Value := [zz, zz]
def ll_b2 (Aw : Option Addr) (nw : Nat) (kw : Nat) (Ac : Option Addr) (nc : Nat) (kc : Nat) : List Value := (ll_l0 Aw nw kw Ac nc kc) ++ (ll_l1)
def ll_l3 (lw : List W3) (Aw : Option Addr) (nw : Nat) (kw : Nat) (cl : List C10) (Ac : Option Addr) (nc : Nat) (kc : Nat) (A5 : Option Addr) (c5 : Nat) (b5 : List Bool) : List Value := [.slice Aw lw.length kw, .slice Ac cl.length kc, zz, zz, .bool false, .bool true, .bool false, .slice Aw nw kw, .slice Aw lw.length kw, .slice Ac nc kc, .slice Ac cl.length kc, .slice Aw lw.length kw, .slice Ac cl.length kc, .slice A5 ((nrmF (keysL cl b5 cl.length)).length) c5, .slice Aw lw.length kw, .slice Ac cl.length kc]
def ll_b4 (lw : List W3) (Aw : Option Addr) (nw : Nat) (kw : Nat) (cl : List C10) (Ac : Option Addr) (nc : Nat) (kc : Nat) (A5 : Option Addr) (c5 : Nat) (b5 : List Bool) : List Value := (ll_l3 lw Aw nw kw cl Ac nc kc A5 c5 b5) ++ (ll_l1)
def ll_l5 (lw : List W3) (Aw : Option Addr) (nw : Nat) (kw : Nat) (cl : List C10) (Ac : Option Addr) (nc : Nat) (kc : Nat) (A5 : Option Addr) (c5 : Nat) (b5 : List Bool) : List Value := [.slice Aw lw.length kw, .slice Ac cl.length kc, zz, zz, .bool true, .bool true, .bool false, .slice Aw nw kw, .slice Aw lw.length kw, .slice Ac nc kc, .slice Ac cl.length kc, .slice Aw lw.length kw, .slice Ac cl.length kc, .slice A5 ((nrmF (keysL cl b5 cl.length)).length) c5, .slice Aw lw.length kw, .slice Ac cl.length kc]
def ll_l6 (cl : List C10) (b5 : List Bool) (A7 : Option Addr) (c7 : Nat) : List Value := [.slice A7 ((nrmF (keysL cl b5 cl.length)).length) c7, .bool true]
def ll_b7 (lw : List W3) (Aw : Option Addr) (nw : Nat) (kw : Nat) (cl : List C10) (Ac : Option Addr) (nc : Nat) (kc : Nat) (A5 : Option Addr) (c5 : Nat) (b5 : List Bool) (A7 : Option Addr) (c7 : Nat) : List Value := (ll_l5 lw Aw nw kw cl Ac nc kc A5 c5 b5) ++ ((ll_l6 cl b5 A7 c7))
set_option maxHeartbeats 8000000 in
set_option maxRecDepth 100000 in
theorem law_leaks {w : World} {lw : List W3} {Aw : Option Addr} {nw kw : Nat} {cl : List C10} {Ac : Option Addr} {nc kc : Nat} (hf : ∀ W : World, Calls Try.prog 10 #[.slice Aw nw kw] W fun e w' => e = .returned (.slice Aw lw.length kw) ∧ Below W.heap.size W w') (hs : ∀ W : World, Calls Try.prog 11 #[.slice Ac nc kc] W fun e w' => e = .returned (.slice Ac cl.length kc) ∧ Below W.heap.size W w') (hw : Rd w (.slice Aw lw.length kw) 3 encT35 lw) (hlw : lw.length ≤ 8) (hc : Rd w (.slice Ac cl.length kc) 10 encT38 cl) (hcl : cl.length ≤ 8) : Calls Try.prog 4 #[.slice Aw nw kw, .slice Ac nc kc] w fun e w' => e = .returned (.bool true) ∧ Below w.heap.size w w' := by
  refine enter (args := [.slice Aw nw kw, .slice Ac nc kc]) (fn := Try.f4) rfl (c := bdy Try.f4) (by kernel_rfl) ?_
  refine ck 1 [] [] fun γ1 => ⟨⟨kt (bdy Try.f4) [1, 0, 0, 0] [], (ll_b2 Aw nw kw Ac nc kc), []⟩, [], [], by kernel_rfl, .nil, ?_⟩
  refine cp (fun W hW => alive_is W) ?_
  refine ck 2 [] [] fun γ2 => ⟨⟨kt (bdy Try.f4) [1, 1, 0, 1] [], upv (ll_b2 Aw nw kw Ac nc kc) [(5, .bool true), (6, .bool false), (7, .slice Aw nw kw)], []⟩, [], [], by kernel_rfl, .nil, ?_⟩
  refine cp (fun W hW => hf W) ?_
  refine ck 1 [] [] fun γ3 => ⟨⟨kt (bdy Try.f4) [1, 1, 0, 3] [], upv (ll_b2 Aw nw kw Ac nc kc) [(5, .bool true), (6, .bool false), (7, .slice Aw nw kw), (8, .slice Aw lw.length kw), (9, .slice Ac nc kc)], []⟩, [], [], by kernel_rfl, .nil, ?_⟩
  refine cp (fun W hW => hs W) ?_
  refine ck 4 [] [] fun γ4 => ⟨⟨kt (bdy Try.f4) [1, 1, 1, 0, 2] [], upv (ll_b2 Aw nw kw Ac nc kc) [(0, .slice Aw lw.length kw), (1, .slice Ac cl.length kc), (5, .bool true), (6, .bool false), (7, .slice Aw nw kw), (8, .slice Aw lw.length kw), (9, .slice Ac nc kc), (10, .slice Ac cl.length kc), (11, .slice Aw lw.length kw), (12, .slice Ac cl.length kc)], []⟩, [], [], by kernel_rfl, .nil, ?_⟩
  refine cf (fun W hW => leaks_is (hw.below (hW.old 0 rfl)) hlw (hc.below (hW.old 0 rfl)) hcl) ?_
  rintro ⟨⟨⟨A5, c5⟩, b5⟩, hb5⟩
  refine ck 2 [] [] fun γ6 => ⟨⟨kt (bdy Try.f4) [1, 1, 1, 0, 5] [], (ll_b4 lw Aw nw kw cl Ac nc kc A5 c5 b5), []⟩, [], [], by kernel_rfl, .nil, ?_⟩
  refine cf (fun W hW => refleaks_is (hw.below (hW.old 1 rfl)) hlw (hc.below (hW.old 1 rfl)) hcl) ?_
  rintro ⟨⟨⟨A7, c7⟩, b7⟩, hb7⟩
  obtain rfl := reachs_eq hb5 hb7
  refine cp (fun W hW => keys_refl (own_rd encT71_len (hW.at 1 rfl)) (own_rd encT71_len (hW.at 0 rfl)) (Nat.le_trans (nrm_len _) (Nat.le_trans (keysL_len cl b5 cl.length) (by omega)))) ?_
  refine ck 1 [] [] fun γ8 => ⟨⟨kt (bdy Try.f4) [1, 1, 1, 1] [], (ll_b7 lw Aw nw kw cl Ac nc kc A5 c5 b5 A7 c7), []⟩, [], [], by kernel_rfl, .nil, ?_⟩
  refine rt (.bool true) [] [] (fun W hW => ?_)
  exact ⟨rfl, (hW.old 2 rfl)⟩
end Go.Proofs.Ythcmcekjgecnhab.Sr
