/- Clone. No condition beside those that each theorem names. -/
import Derived.Test.YtbijkflfphppgaaAyV
namespace Go.Proofs.Ytbijkflfphppgaa.Sr
open Go.RowKit Go.Proofs.YtbijkflfphppgaaM.Mach
set_option linter.unusedVariables false
set_option linter.unusedSimpArgs false
def cloneH_n_l0 (c : Nat) (xs : List (H12)) : List Value := [.slice none xs.length c, zz, .slice none 0 0, .slice none xs.length c, .bool true, zz, zz, zz]
def cloneH_s_l0 (ad : Addr) (c : Nat) (xs : List (H12)) (γ1 : Nat → Nat) : List Value := [.slice (some ad) xs.length c, zz, .slice none 0 0, .slice (some ad) xs.length c, .bool false, .slice (some ⟨γ1 3, 0, none⟩) 0 0, .slice (some ad) xs.length c, zz]
set_option maxHeartbeats 8000000 in
set_option maxRecDepth 100000 in
theorem cloneH0 {w : World} {A : Option Addr} {c : Nat} {xs : List (H12)} (h : Rd w (.slice A xs.length c) 12 encT78 xs) (hl : xs.length ≤ 1000) : Calls Try.prog 40 #[.slice A xs.length c] w fun e w' => ∃ r : Option Addr × Nat, e = .returned (.slice r.1 xs.length r.2) ∧ Fresh w w' [rowA 78 12 (.slice r.1 xs.length r.2) xs.length (xs.flatMap encT78)] := by
  rcases A with _ | ad
  · skip
    have hl0 : xs = [] := by
      obtain ⟨A, c', e0, hc, hA⟩ := h
      cases e0
      rcases hA with h | ⟨B, o, h, _⟩
      · exact h
      · cases h
    refine enter (args := [.slice none xs.length c]) (fn := Try.f40) rfl (c := bdy Try.f40) (by kernel_rfl) ?_
    refine ck 4 [] [] fun γ1 => ⟨⟨kt (bdy Try.f40) [1, 0, 1, 0, 1] [], (cloneH_n_l0 c xs), []⟩, [], [], by kernel_rfl, .nil, ?_⟩
    subst hl0
    refine nilrow 78 12 ?_
    refine rt (.slice none 0 0) [] [] (fun W hW => ⟨(none, 0), rfl, Fresh.of hW (.cons_cons _ (.cons_cons _ .slnil))⟩)
  · skip
    refine enter (args := [.slice (some ad) xs.length c]) (fn := Try.f40) rfl (c := bdy Try.f40) (by kernel_rfl) ?_
    refine ck 5 [] [] fun γ1 => ⟨⟨kt (bdy Try.f40) [1, 1, 0, 2] [], (cloneH_s_l0 ad c xs γ1), [(γ1 3, 78, [])]⟩, [], [], by kernel_rfl, .nil, ?_⟩
    refine zrow 78 12 (some ⟨γ1 3, 0, none⟩) ?_
    refine aps (enc := encT78) (l := xs) 0 112 rfl (fun W hW => (h.below (hW.old 1 rfl))) encT78_len encT78_cell (by first | omega | (simp only [List.length_append, List.length_cons, List.length_nil]; omega)) (by simp only [maxLen]; first | omega | (simp only [List.length_append, List.length_cons, List.length_nil]; omega)) (xs.length) (xs.flatMap encT78) (by first | rfl | (simp; done) | (simp only [List.length_append, List.length_cons, List.length_nil]; omega) | (simp; omega)) (by simp) fun A2 c2 => ?_
    refine ck 1 [] [] fun γ3 => ⟨⟨kt (bdy Try.f40) [1, 1, 1] [], upv (cloneH_s_l0 ad c xs γ1) [(2, .slice A2 xs.length c2), (7, .slice A2 xs.length c2)], [(γ1 3, 78, [])]⟩, [], [], by kernel_rfl, .nil, ?_⟩
    refine rt (.slice A2 xs.length c2) [] [] (fun W hW => ?_)
    exact ⟨(A2, c2), rfl, Fresh.of hW (.cons_cons _ (.cons_cons _ .slnil))⟩
theorem cloneH {w : World} {A : Option Addr} {c n : Nat} {xs : List (H12)} (hn : xs.length = n) (h : Rd w (.slice A n c) 12 encT78 xs) (hl : n ≤ 1000) : Calls Try.prog 40 #[.slice A n c] w fun e w' => ∃ r : Option Addr × Nat, e = .returned (.slice r.1 n r.2) ∧ Fresh w w' [rowA 78 12 (.slice r.1 n r.2) n (xs.flatMap encT78)] := by
  subst hn
  exact cloneH0 h hl
def cn_c0 (Ac : Option Addr) (kq : Nat) (At : Option Addr) (ct : Nat) (tl : List H12) (cl : List C10) (Ar : Option Addr) (rl : List Int) (cr : Nat) : List Value := [.slice At tl.length ct, .bool true, .slice Ac cl.length kq, .slice Ar rl.length cr]
def cn_l1 (g : Nat) (Ac : Option Addr) (kq : Nat) (At : Option Addr) (ct : Nat) (tl : List H12) (cl : List C10) (Ar : Option Addr) (rl : List Int) (cr : Nat) (γ1 : Nat → Nat) : List Value := [.pointer (some ⟨g, 0, none⟩), zz, .pointer none, .pointer (some ⟨γ1 13, 0, none⟩), .pointer (some ⟨g, 0, none⟩), .bool false, .bool false, .pointer (some ⟨g, 0, none⟩), .pointer (some ⟨g, 0, none⟩), .pointer (some ⟨g, 1, none⟩), .bool true, .bool false, .bool false, .pointer (some ⟨g, 0, none⟩), .pointer (some ⟨g, 0, none⟩), .agg #[.slice At tl.length ct, .bool true, .slice Ac cl.length kq, .slice Ar rl.length cr]]
def cn_l2 : List Value := [zz, zz, zz, zz, zz, zz, zz, zz, zz, zz, zz, zz, zz, zz, zz, zz]
def cn_l3 : List Value := [zz, zz, zz, zz]
def cn_b4 (g : Nat) (Ac : Option Addr) (kq : Nat) (At : Option Addr) (ct : Nat) (tl : List H12) (cl : List C10) (Ar : Option Addr) (rl : List Int) (cr : Nat) (γ1 : Nat → Nat) : List Value := (cn_l1 g Ac kq At ct tl cl Ar rl cr γ1) ++ (cn_l2 ++ (cn_l3))
def cn_l5 (g : Nat) (Ac : Option Addr) (kq : Nat) (At : Option Addr) (ct : Nat) (tl : List H12) (cl : List C10) (Ar : Option Addr) (rl : List Int) (cr : Nat) (A2 : Option Addr) (c2 : Nat) (A3 : Option Addr) (c3 : Nat) (A4 : Option Addr) (c4 : Nat) : List Value := [.pointer (some ⟨g, 0, none⟩), .pointer (some ⟨g, 0, none⟩), .pointer (some ⟨g, 2, none⟩), .slice Ac cl.length kq, .slice A2 cl.length c2, .pointer (some ⟨g, 0, none⟩), .pointer (some ⟨g, 0, none⟩), .pointer (some ⟨g, 3, none⟩), .slice Ar rl.length cr, .slice A3 rl.length c3, .pointer (some ⟨g, 0, none⟩), .pointer (some ⟨g, 0, none⟩), .pointer (some ⟨g, 0, none⟩), .pointer (some ⟨g, 0, none⟩), .slice At tl.length ct, .slice A4 tl.length c4]
def cn_l6 (γ1 : Nat → Nat) : List Value := [.pointer (some ⟨γ1 13, 2, none⟩), .pointer (some ⟨γ1 13, 3, none⟩), .pointer (some ⟨γ1 13, 0, none⟩), .pointer (some ⟨γ1 13, 0, none⟩)]
def cn_b7 (g : Nat) (Ac : Option Addr) (kq : Nat) (At : Option Addr) (ct : Nat) (tl : List H12) (cl : List C10) (Ar : Option Addr) (rl : List Int) (cr : Nat) (γ1 : Nat → Nat) (A2 : Option Addr) (c2 : Nat) (A3 : Option Addr) (c3 : Nat) (A4 : Option Addr) (c4 : Nat) : List Value := (cn_l1 g Ac kq At ct tl cl Ar rl cr γ1) ++ ((cn_l5 g Ac kq At ct tl cl Ar rl cr A2 c2 A3 c3 A4 c4) ++ ((cn_l6 γ1)))
def cn_c8 (tl : List H12) (cl : List C10) (rl : List Int) (A2 : Option Addr) (c2 : Nat) (A3 : Option Addr) (c3 : Nat) (A4 : Option Addr) (c4 : Nat) : List Value := [.slice A4 tl.length c4, .bool true, .slice A2 cl.length c2, .slice A3 rl.length c3]
set_option maxHeartbeats 8000000 in
set_option maxRecDepth 100000 in
theorem clone_is {w : World} {g : Nat} {Ac : Option Addr} {kq : Nat} {At : Option Addr} {ct : Nat} {tl : List H12} {cl : List C10} {Ar : Option Addr} {rl : List Int} {cr : Nat} {X : List Asrt} (hcl : cl.length ≤ 1000) (htl : tl.length ≤ 1000) (hrl : rl.length ≤ 1000) (hxa : rdA (.slice Ar rl.length cr) 1 encT3 rl ∈ X) (hown : HoldR w [blkA (g, 63, (cn_c0 Ac kq At ct tl cl Ar rl cr)), rowA 78 12 (.slice At tl.length ct) tl.length (tl.flatMap encT78), rowA 43 10 (.slice Ac cl.length kq) cl.length (cl.flatMap encT43), pool X]) : Calls Try.prog 22 #[.pointer (some ⟨g, 0, none⟩)] w fun e W => ∃ x : Nat × Option Addr × Nat × Option Addr × Nat × Option Addr × Nat, e = .returned (.pointer (some ⟨x.1, 0, none⟩)) ∧ HoldR W ([blkA (g, 63, [.slice At tl.length ct, .bool true, .slice Ac cl.length kq, .slice Ar rl.length cr]), blkA (x.1, 63, [.slice x.2.1 tl.length x.2.2.1, .bool true, .slice x.2.2.2.1 cl.length x.2.2.2.2.1, .slice x.2.2.2.2.2.1 rl.length x.2.2.2.2.2.2]), rowA 78 12 (.slice At tl.length ct) tl.length (tl.flatMap encT78), rowA 43 10 (.slice Ac cl.length kq) cl.length (cl.flatMap encT43), pool X, rowA 78 12 (.slice x.2.1 tl.length x.2.2.1) tl.length (tl.flatMap encT78), rowA 43 10 (.slice x.2.2.2.1 cl.length x.2.2.2.2.1) cl.length (cl.flatMap encT43), rdA (.slice x.2.2.2.2.2.1 rl.length x.2.2.2.2.2.2) 1 encT3 rl] ++ [oldF w [blkA (g, 63, (cn_c0 Ac kq At ct tl cl Ar rl cr)), rowA 78 12 (.slice At tl.length ct) tl.length (tl.flatMap encT78), rowA 43 10 (.slice Ac cl.length kq) cl.length (cl.flatMap encT43), pool X]]) := by
  refine enterF (args := [.pointer (some ⟨g, 0, none⟩)]) (fn := Try.f22) (L := [(g, 63, (cn_c0 Ac kq At ct tl cl Ar rl cr))]) (F0 := [rowA 78 12 (.slice At tl.length ct) tl.length (tl.flatMap encT78), rowA 43 10 (.slice Ac cl.length kq) cl.length (cl.flatMap encT43), pool X]) rfl (c := bdy Try.f22) (by kernel_rfl) hown ?_
  refine ck 15 [(9, 0)] [] fun γ1 => ⟨⟨kt (bdy Try.f22) [1, 1, 1, 0] [], (cn_b4 g Ac kq At ct tl cl Ar rl cr γ1), [(γ1 13, 63, (cn_c0 Ac kq At ct tl cl Ar rl cr)), (g, 63, (cn_c0 Ac kq At ct tl cl Ar rl cr))]⟩, [(5, g), (4, γ1 13)], [], by kernel_rfl, .nil, ?_⟩
  refine dr [] [] .nil ?_
  refine df [0, 1, 2, 3, 5, 6, 7, 8, 10, 11, 12, 13, 14] [(3, 1)] [] [(3, g)] [] .nil ?_
  refine df' 4 (args := #[.slice Ac cl.length kq]) (fun W hW => cloneC (xs := cl) (by first | rfl | omega) (own_rd encT43_len (hW.at 1 rfl)) (by omega)) ?_
  rintro ⟨A2, c2⟩
  refine df' 9 (args := #[.slice Ar rl.length cr]) (fun W hW => cloneI (xs := rl) (by first | rfl | omega) (pool_rd hxa (hW.at 3 rfl)) (by omega)) ?_
  rintro ⟨A3, c3⟩
  refine df' 15 (args := #[.slice At tl.length ct]) (fun W hW => cloneH (xs := tl) (by first | rfl | omega) (own_rd encT78_len (hW.at 2 rfl)) (by omega)) ?_
  rintro ⟨A4, c4⟩
  refine df [16] [] [] [] [] .nil ?_
  refine ds 17 [(1, 0)] [(1, γ1 13)] ?_
  refine df [18] [] [] [] [] .nil ?_
  refine ds 19 [(1, 0)] [(1, γ1 13)] ?_
  refine df [20, 21] [] [] [] [] .nil ?_
  refine ds 22 [(1, 0)] [(1, γ1 13)] ?_
  refine de (fs := (kt (bdy Try.f22) [1, 1, 1, 0] []).tail) ?_
  refine st0 (fs := (kt (bdy Try.f22) [1, 1, 1, 0] []).tail) ((cn_b7 g Ac kq At ct tl cl Ar rl cr γ1 A2 c2 A3 c3 A4 c4)) [(γ1 13, 63, (cn_c8 tl cl rl A2 c2 A3 c3 A4 c4)), (g, 63, (cn_c0 Ac kq At ct tl cl Ar rl cr))] ?_
  refine ck 1 [] [] fun γ5 => ⟨⟨kt (bdy Try.f22) [1, 1, 1, 1, 1] [], upv (cn_b7 g Ac kq At ct tl cl Ar rl cr γ1 A2 c2 A3 c3 A4 c4) [(2, .pointer (some ⟨γ1 13, 0, none⟩))], [(γ1 13, 63, (cn_c8 tl cl rl A2 c2 A3 c3 A4 c4)), (g, 63, (cn_c0 Ac kq At ct tl cl Ar rl cr))]⟩, [], [], by kernel_rfl, .nil, ?_⟩
  refine fz 1 encT3_len rfl (by first | rfl | simp) ?_
  refine rtL (.pointer (some ⟨γ1 13, 0, none⟩)) [] [] ([(γ1 13, 63, (cn_c8 tl cl rl A2 c2 A3 c3 A4 c4)), (g, 63, (cn_c0 Ac kq At ct tl cl Ar rl cr))]) (fun W hW => ?_)
  exact ⟨(γ1 13, A4, c4, A2, c2, A3, c3), rfl, hW.ix [1, 0, 5, 6, 7, 2, 4, 3, 8] (by decide) rfl⟩
/-- How an arena stands beside its lists. -/
structure SOK (n : Nat) (X : List Asrt) (tl : List H12) (hs : List ST) (cl : List C10) (rl : List Int) (Ar : Option Addr) (cr : Nat) (Bc : Option Addr) (kc : Nat) (Br : Option Addr) (kr : Nat) (mk : Int) (s0 : ST) : Prop where
  hst : HST n X tl hs cl rl
  xa : rdA (.slice Ar rl.length cr) 1 encT3 rl ∈ X
  xc : rdA (.slice Bc n kc) 10 encT43 cl ∈ X
  xb : rdA (.slice Br rl.length kr) 1 encT3 rl ∈ X
  mkk : mk = ((tl.length : Nat) : Int)
  hz : hs[0]! = s0
theorem SOK.more {n : Nat} {X Y : List Asrt} {tl : List H12} {hs : List ST} {cl : List C10} {rl : List Int} {Ar : Option Addr} {cr : Nat} {Bc : Option Addr} {kc : Nat} {Br : Option Addr} {kr : Nat} {mk : Int} {s0 : ST} (h : SOK n X tl hs cl rl Ar cr Bc kc Br kr mk s0) (hXY : ∀ A ∈ X, A ∈ Y) : SOK n Y tl hs cl rl Ar cr Bc kc Br kr mk s0 :=
  ⟨h.hst.more hXY, hXY _ h.xa, hXY _ h.xc, hXY _ h.xb, h.mkk, h.hz⟩
theorem SOK.run {n : Nat} {X : List Asrt} {tl : List H12} {hs : List ST} {cl : List C10} {rl : List Int} {Ar : Option Addr} {cr : Nat} {Bc : Option Addr} {kc : Nat} {Br : Option Addr} {kr : Nat} {mk : Int} {s0 : ST} {cl2 : List C10} {rl2 : List Int} {tl2 : List H12} {hs2 : List ST} {X2 : List Asrt} {Ar2 : Option Addr} {cr2 : Nat} {Bc2 : Option Addr} {kc2 : Nat} {Br2 : Option Addr} {kr2 : Nat} {mk2 : Int} (h : SOK n X tl hs cl rl Ar cr Bc kc Br kr mk s0) (hR : RUNW n X tl hs cl2 rl2 tl2 hs2 X2 Ar2 cr2 Bc2 kc2 Br2 kr2 mk2) : SOK n X2 tl2 hs2 cl2 rl2 Ar2 cr2 Bc2 kc2 Br2 kr2 mk2 s0 :=
  ⟨hR.hst, hR.xa, hR.xc, hR.xb, hR.mkk, hz_w h.hst hR h.hz⟩
theorem SOK.clone {n : Nat} {X : List Asrt} {tl : List H12} {hs : List ST} {cl : List C10} {rl : List Int} {Ar : Option Addr} {cr : Nat} {Bc : Option Addr} {kc : Nat} {Br : Option Addr} {kr : Nat} {mk : Int} {s0 : ST} (h : SOK n X tl hs cl rl Ar cr Bc kc Br kr mk s0) (Ar2 : Option Addr) (cr2 : Nat) : SOK n (rdA (.slice Ar2 rl.length cr2) 1 encT3 rl :: X) tl hs cl rl Ar2 cr2 Bc kc Br kr mk s0 :=
  ⟨h.hst.more fun A hA => List.mem_cons_of_mem _ hA, List.mem_cons_self, List.mem_cons_of_mem _ h.xc, List.mem_cons_of_mem _ h.xb, h.mkk, h.hz⟩
theorem clone_p {w : World} {g : Nat} {Ac : Option Addr} {kq n : Nat} {At : Option Addr} {ct : Nat} {tl : List H12} {cl : List C10} {Ar : Option Addr} {rl : List Int} {cr : Nat} {X : List Asrt} (hn : cl.length = n) (hcl : n ≤ 1000) (htl : tl.length ≤ 1000) (hrl : rl.length ≤ 1000) (hxa : rdA (.slice Ar rl.length cr) 1 encT3 rl ∈ X) (hown : HoldR w (partsP g Ac kq n At ct tl cl Ar rl.length cr X)) : Calls Try.prog 22 #[.pointer (some ⟨g, 0, none⟩)] w fun e W => ∃ x : Nat × Option Addr × Nat × Option Addr × Nat × Option Addr × Nat, e = .returned (.pointer (some ⟨x.1, 0, none⟩)) ∧ HoldR W ([blkA (g, 63, [.slice At tl.length ct, .bool true, .slice Ac n kq, .slice Ar rl.length cr]), blkA (x.1, 63, [.slice x.2.1 tl.length x.2.2.1, .bool true, .slice x.2.2.2.1 n x.2.2.2.2.1, .slice x.2.2.2.2.2.1 rl.length x.2.2.2.2.2.2]), rowA 78 12 (.slice At tl.length ct) tl.length (tl.flatMap encT78), rowA 43 10 (.slice Ac n kq) n (cl.flatMap encT43), pool X, rowA 78 12 (.slice x.2.1 tl.length x.2.2.1) tl.length (tl.flatMap encT78), rowA 43 10 (.slice x.2.2.2.1 n x.2.2.2.2.1) n (cl.flatMap encT43), rdA (.slice x.2.2.2.2.2.1 rl.length x.2.2.2.2.2.2) 1 encT3 rl] ++ [oldF w (partsP g Ac kq n At ct tl cl Ar rl.length cr X)]) := by
  subst hn
  exact clone_is hcl htl hrl hxa hown
end Go.Proofs.Ytbijkflfphppgaa.Sr
