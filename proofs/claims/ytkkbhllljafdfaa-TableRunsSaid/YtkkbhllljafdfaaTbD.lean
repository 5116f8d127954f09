/- Find; a number comes into the book. No condition beside those that each theorem names. -/
import Derived.Test.YtkkbhllljafdfaaTbC
namespace Go.Proofs.Ytkkbhllljafdfaa.Sr
open Go.RowKit Go.Proofs.YtkkbhllljafdfaaM.Mach
set_option linter.unusedVariables false
set_option linter.unusedSimpArgs false
theorem find_is {w : World} {b1 b2 : Nat} {g : Nat} {gm : Nat} {clk : Nat} {Ar : Option Addr} {cr : Nat} {rs : List R2} {cn : Nat} {en : List EN} {ky : Int} {sx : ByteArray} (hrs : rs.length ≤ 1000) (hT : TINV rs en) (hown : HoldR w ([blkA (b1, 24, [.pointer (some ⟨g, 0, none⟩)]), blkA (b2, 9, [.string sx])] ++ [blkA (g, 41, [.map (some gm), .slice Ar rs.length cr, .int .i64 (cn : Int)]), rowA 47 2 (.slice Ar rs.length cr) rs.length (rs.flatMap encT47), mapA gm (en.map entM) clk, bun (en.map rowE)])) : Calls Try.prog 16 #[.agg #[.map (some gm)], .int .u64 ky, .func (.func 17) #[] #[.pointer (some ⟨b1, 0, none⟩), .pointer (some ⟨b2, 0, none⟩)]] w fun e W => ∃ x : Unit, e = .returned (.tuple #[.int .i64 (fI rs ky sx), .bool (fB rs ky sx)]) ∧ HoldR W (([blkA (b1, 24, [.pointer (some ⟨g, 0, none⟩)]), blkA (b2, 9, [.string sx])] ++ [blkA (g, 41, [.map (some gm), .slice Ar rs.length cr, .int .i64 (cn : Int)]), rowA 47 2 (.slice Ar rs.length cr) rs.length (rs.flatMap encT47), mapA gm (en.map entM) clk, bun (en.map rowE)]) ++ [oldF w ([blkA (b1, 24, [.pointer (some ⟨g, 0, none⟩)]), blkA (b2, 9, [.string sx])] ++ [blkA (g, 41, [.map (some gm), .slice Ar rs.length cr, .int .i64 (cn : Int)]), rowA 47 2 (.slice Ar rs.length cr) rs.length (rs.flatMap encT47), mapA gm (en.map entM) clk, bun (en.map rowE)])]) := by
  rcases key_split (h := ky) en with hno | ⟨E1, e, E2, rfl, rfl, hno⟩
  · exact find_c0 hrs hT hno hown
  · obtain ⟨k1, b1', ⟨A1, c1'⟩, il⟩ := e
    simp only [List.map_append, List.map_cons] at hown ⊢
    exact find_c1 hrs hT hno hown
def fd_c0 (gm : Nat) (Ar : Option Addr) (cr : Nat) (rs : List R2) (cn : Nat) : List Value := [.map (some gm), .slice Ar rs.length cr, .int .i64 (cn : Int)]
def fd_l1 (g : Nat) (ky : Int) (sx : ByteArray) (γ1 : Nat → Nat) : List Value := [.pointer (some ⟨g, 0, none⟩), .int .u64 ky, .string sx, .pointer (some ⟨γ1 0, 0, none⟩), zz, .pointer (some ⟨γ1 1, 0, none⟩), .int .i64 0, .bool false, .pointer (some ⟨g, 0, none⟩), zz, zz, zz, zz, zz, zz, zz]
def fd_l2 : List Value := [zz, zz, zz]
def fd_b3 (g : Nat) (ky : Int) (sx : ByteArray) (γ1 : Nat → Nat) : List Value := (fd_l1 g ky sx γ1) ++ (fd_l2)
def fd_c4 (g : Nat) : List Value := [.pointer (some ⟨g, 0, none⟩)]
def fd_l5 (g : Nat) (gm : Nat) : List Value := [.pointer (some ⟨g, 0, none⟩), zz, .bool false, .pointer (some ⟨g, 0, none⟩), .bool false, .bool false, .pointer (some ⟨g, 0, none⟩), .pointer (some ⟨g, 0, none⟩), .pointer (some ⟨g, 0, none⟩), .pointer (some ⟨g, 0, none⟩), .map (some gm), .bool false, .bool false]
def fd_l6 (g : Nat) (gm : Nat) (ky : Int) (sx : ByteArray) (γ1 : Nat → Nat) : List Value := [.pointer (some ⟨g, 0, none⟩), .int .u64 ky, .string sx, .pointer (some ⟨γ1 0, 0, none⟩), zz, .pointer (some ⟨γ1 1, 0, none⟩), .int .i64 0, .bool false, .pointer (some ⟨g, 0, none⟩), .bool false, .pointer (some ⟨g, 0, none⟩), .pointer (some ⟨g, 0, none⟩), .pointer (some ⟨g, 0, none⟩), .agg #[.map (some gm)], .int .u64 ky, .func (.func 17) #[] #[.pointer (some ⟨γ1 0, 0, none⟩), .pointer (some ⟨γ1 1, 0, none⟩)]]
def fd_b7 (g : Nat) (gm : Nat) (ky : Int) (sx : ByteArray) (γ1 : Nat → Nat) : List Value := (fd_l6 g gm ky sx γ1) ++ (fd_l2)
set_option maxHeartbeats 8000000 in
set_option maxRecDepth 100000 in
theorem find8_is {w : World} {g : Nat} {gm : Nat} {clk : Nat} {Ar : Option Addr} {cr : Nat} {rs : List R2} {cn : Nat} {en : List EN} {ky : Int} {sx : ByteArray} (hrs : rs.length ≤ 1000) (hT : TINV rs en) (hown : HoldR w [blkA (g, 41, (fd_c0 gm Ar cr rs cn)), rowA 47 2 (.slice Ar rs.length cr) rs.length (rs.flatMap encT47), mapA gm (en.map entM) clk, bun (en.map rowE)]) : Calls Try.prog 8 #[.pointer (some ⟨g, 0, none⟩), .int .u64 ky, .string sx] w fun e W => ∃ x : Unit, e = .returned (.tuple #[.int .i64 (fI rs ky sx), .bool (fB rs ky sx)]) ∧ HoldR W ([blkA (g, 41, (fd_c0 gm Ar cr rs cn)), rowA 47 2 (.slice Ar rs.length cr) rs.length (rs.flatMap encT47), mapA gm (en.map entM) clk, bun (en.map rowE)] ++ [oldF w [blkA (g, 41, (fd_c0 gm Ar cr rs cn)), rowA 47 2 (.slice Ar rs.length cr) rs.length (rs.flatMap encT47), mapA gm (en.map entM) clk, bun (en.map rowE)]]) := by
  refine enterF (args := [.pointer (some ⟨g, 0, none⟩), .int .u64 ky, .string sx]) (fn := Try.f8) (L := [(g, 41, (fd_c0 gm Ar cr rs cn))]) (F0 := [rowA 47 2 (.slice Ar rs.length cr) rs.length (rs.flatMap encT47), mapA gm (en.map entM) clk, bun (en.map rowE)]) rfl (c := bdy Try.f8) (by kernel_rfl) hown ?_
  refine ck 5 [(1, 1)] [] fun γ1 => ⟨⟨kt (bdy Try.f8) [1, 0, 0, 1] [], (fd_b3 g ky sx γ1), [(γ1 1, 9, [.string sx]), (γ1 0, 24, (fd_c4 g)), (g, 41, (fd_c0 gm Ar cr rs cn))]⟩, [(1, γ1 0)], [], by kernel_rfl, .nil, ?_⟩
  refine ci (f := 15) (args := [.pointer (some ⟨g, 0, none⟩)]) (fn := Try.f15) (c := bdy Try.f15) rfl (fun R2 hR2 => ?_)
  refine ck 12 [(1, 2)] [] fun γ3 => ⟨⟨kt (bdy Try.f15) [1, 1] [], (fd_l5 g gm), [(γ1 1, 9, [.string sx]), (γ1 0, 24, (fd_c4 g)), (g, 41, (fd_c0 gm Ar cr rs cn))]⟩, [(1, g)], [], by kernel_rfl, .nil, ?_⟩
  refine crm hR2 (.bool false) [] [] [true, true, true] ?_
  refine ck 6 [(1, 1), (1, 2)] [] fun γ4 => ⟨⟨kt (bdy Try.f8) [1, 1, 0, 6] [], (fd_b7 g gm ky sx γ1), [(γ1 1, 9, [.string sx]), (γ1 0, 24, (fd_c4 g)), (g, 41, (fd_c0 gm Ar cr rs cn))]⟩, [(1, γ1 0), (1, g)], [], by kernel_rfl, .nil, ?_⟩
  refine cg (args := #[.agg #[.map (some gm)], .int .u64 ky, .func (.func 17) #[] #[.pointer (some ⟨γ1 0, 0, none⟩), .pointer (some ⟨γ1 1, 0, none⟩)]]) (X := Unit) ([(γ1 1, 9, [.string sx]), (γ1 0, 24, (fd_c4 g)), (g, 41, (fd_c0 gm Ar cr rs cn))]) [blkA (γ1 0, 24, (fd_c4 g)), blkA (γ1 1, 9, [.string sx]), blkA (g, 41, (fd_c0 gm Ar cr rs cn)), rowA 47 2 (.slice Ar rs.length cr) rs.length (rs.flatMap encT47), mapA gm (en.map entM) clk, bun (en.map rowE)] [oldF w [blkA (g, 41, (fd_c0 gm Ar cr rs cn)), rowA 47 2 (.slice Ar rs.length cr) rs.length (rs.flatMap encT47), mapA gm (en.map entM) clk, bun (en.map rowE)]] (fun x => [(γ1 1, 9, [.string sx]), (γ1 0, 24, (fd_c4 g)), (g, 41, (fd_c0 gm Ar cr rs cn))]) (fun x => [rowA 47 2 (.slice Ar rs.length cr) rs.length (rs.flatMap encT47), mapA gm (en.map entM) clk, bun (en.map rowE), oldF w [blkA (g, 41, (fd_c0 gm Ar cr rs cn)), rowA 47 2 (.slice Ar rs.length cr) rs.length (rs.flatMap encT47), mapA gm (en.map entM) clk, bun (en.map rowE)]]) (fun W h => h.ix [1, 0, 2, 3, 4, 5, 6] (by decide) rfl) (fun x W h => h.ix [1, 0, 2, 3, 4, 5, 6] (by decide) rfl) (fun W hW => find_is hrs hT (hW.ix [0, 1, 2, 3, 4, 5] (by decide) rfl)) ?_
  rintro ⟨⟩
  refine ck 4 [] [] fun γ5 => ⟨⟨kt (bdy Try.f8) [1, 1, 1] [], upv (fd_b7 g gm ky sx γ1) [(6, .int .i64 (fI rs ky sx)), (7, .bool (fB rs ky sx)), (16, .tuple #[.int .i64 (fI rs ky sx), .bool (fB rs ky sx)]), (17, .int .i64 (fI rs ky sx)), (18, .bool (fB rs ky sx))], [(γ1 1, 9, [.string sx]), (γ1 0, 24, (fd_c4 g)), (g, 41, (fd_c0 gm Ar cr rs cn))]⟩, [], [], by kernel_rfl, .nil, ?_⟩
  refine rtL (.tuple #[.int .i64 (fI rs ky sx), .bool (fB rs ky sx)]) [] [] ([(γ1 1, 9, [.string sx]), (γ1 0, 24, (fd_c4 g)), (g, 41, (fd_c0 gm Ar cr rs cn))]) (fun W hW => ?_)
  exact ⟨(), rfl, hW.ix [2, 3, 4, 5, 6] (by decide) rfl⟩
theorem find_v {w : World} {g : Nat} {gm : Nat} {clk : Nat} {Ar : Option Addr} {cr : Nat} {rs : List R2} {cn : Nat} {en : List EN} {ky : Int} {sx : ByteArray} {a : Int} {b : Bool} (hrs : rs.length ≤ 1000) (hT : TINV rs en) (ha : fI rs ky sx = a) (hb : fB rs ky sx = b) (hown : HoldR w [blkA (g, 41, [.map (some gm), .slice Ar rs.length cr, .int .i64 (cn : Int)]), rowA 47 2 (.slice Ar rs.length cr) rs.length (rs.flatMap encT47), mapA gm (en.map entM) clk, bun (en.map rowE)]) : Calls Try.prog 8 #[.pointer (some ⟨g, 0, none⟩), .int .u64 ky, .string sx] w fun e W => ∃ x : Unit, e = .returned (.tuple #[.int .i64 a, .bool b]) ∧ HoldR W ([blkA (g, 41, [.map (some gm), .slice Ar rs.length cr, .int .i64 (cn : Int)]), rowA 47 2 (.slice Ar rs.length cr) rs.length (rs.flatMap encT47), mapA gm (en.map entM) clk, bun (en.map rowE)] ++ [oldF w [blkA (g, 41, [.map (some gm), .slice Ar rs.length cr, .int .i64 (cn : Int)]), rowA 47 2 (.slice Ar rs.length cr) rs.length (rs.flatMap encT47), mapA gm (en.map entM) clk, bun (en.map rowE)]]) := by
  subst ha hb
  exact find8_is hrs hT hown
def pp1_l0 (gm : Nat) (ky : Int) (xn : Int) (γ1 : Nat → Nat) : List Value := [.agg #[.map (some gm)], .int .u64 ky, .int .i64 xn, .pointer (some ⟨γ1 0, 0, none⟩), zz, zz, zz, zz, zz, zz, zz, zz, zz, zz, zz, zz]
set_option maxHeartbeats 8000000 in
set_option maxRecDepth 100000 in
theorem pput0 {w : World} {gm : Nat} {clk : Nat} {en : List EN} {ky : Int} {xn : Int} (hno : ∀ e ∈ en, e.1 ≠ ky) (hown : HoldR w [mapA gm (en.map entM) clk, bun (en.map rowE)]) : Calls Try.prog 18 #[.agg #[.map (some gm)], .int .u64 ky, .int .i64 xn] w fun e W => ∃ x : (Option Addr) × Nat, e = .returned (.tuple #[]) ∧ HoldR W ([mapA gm (en.map entM ++ [entM (ky, clk, ((x.1), (x.2)), [xn])]) (clk + 1), bun (en.map rowE ++ [rowE (ky, clk, ((x.1), (x.2)), [xn])])] ++ [oldF w [mapA gm (en.map entM) clk, bun (en.map rowE)]]) := by
  refine enterF (args := [.agg #[.map (some gm)], .int .u64 ky, .int .i64 xn]) (fn := Try.f18) (L := []) (F0 := [mapA gm (en.map entM) clk, bun (en.map rowE)]) rfl (c := bdy Try.f18) (by kernel_rfl) hown ?_
  refine nilrow 3 1 ?_
  refine ck 1 [] [] fun γ1 => ⟨⟨kt (bdy Try.f18) [1] [], (pp1_l0 gm ky xn γ1), [(γ1 0, 38, [.map (some gm)])]⟩, [], [], by kernel_rfl, .nil, ?_⟩
  refine dr [] [] .nil ?_
  refine df [0, 1, 2, 3, 4, 5, 7] [(2, 0)] [] [(2, γ1 0)] [] .nil ?_
  refine dlk (ke := 27) (k := .int .u64 ky) (z := .slice none 0 0) (ok := false) (es := en.map entM) 6 1 none rfl (fun W => fk_none hno W) (fun b W => by kernel_rfl) ?_
  refine dn 8 (v := fun g2 => .slice (some ⟨g2, 0, none⟩) 1 1) (b := fun g2 => (g2, 3, [.int .i64 xn])) (fun g L => by kernel_rfl) fun g2 => ?_
  refine dapR [1] (m := 1) (c := 1) (g := g2) (T := 3) (cs := [.int .i64 xn]) 9 0 0 8 rfl (by first | omega | (simp only [List.length_append, List.length_cons, List.length_nil]; omega)) (by simp only [maxLen]; first | omega | (simp only [List.length_append, List.length_cons, List.length_nil]; omega)) ([xn] : List Int).length (([xn] : List Int).flatMap encT3) (by simp) (by simp [encT3]) (.cons (RC.of (.map (some gm)) [(1, 1)] [(1, γ1 0)]) .nil) fun A3 c3 => ?_
  refine dmu (ke := 27) (k := .int .u64 ky) (v := .slice A3 1 c3) (es := en.map entM) 10 1 none (en.map entM ++ [entM (ky, clk, (A3, c3), [xn])]) (clk + 1) rfl (fun W => fk_none hno W) (fun b W => by kernel_rfl) (fun j x h => by cases h) rfl ?_
  refine de (fs := (kt (bdy Try.f18) [1] []).tail) ?_
  refine st0 (fs := (kt (bdy Try.f18) [1] []).tail) (upv (pp1_l0 gm ky xn γ1) [(6, .pointer (some ⟨γ1 0, 0, none⟩)), (7, .map (some gm)), (8, .int .u64 ky), (9, .pointer (some ⟨γ1 0, 0, none⟩)), (10, .map (some gm)), (11, .int .u64 ky), (12, .slice none 0 0), (13, .int .i64 xn), (14, .slice (some ⟨g2, 0, none⟩) 1 1), (15, .slice A3 1 c3)]) [(g2, 3, [.int .i64 xn]), (γ1 0, 38, [.map (some gm)])] ?_
  refine bc 1 (L1 := en.map rowE) (L2 := []) (A := rowE (ky, clk, (A3, c3), [xn])) (by rw [List.append_nil]; rfl) ?_
  refine rtL (.tuple #[]) [] [] ([(g2, 3, [.int .i64 xn]), (γ1 0, 38, [.map (some gm)])]) (fun W hW => ?_)
  exact ⟨⟨A3, c3⟩, rfl, hW.ix [2, 3, 4] (by decide) rfl⟩
def pp0_l0 (gm : Nat) (ky : Int) (xn : Int) (γ1 : Nat → Nat) : List Value := [.agg #[.map (some gm)], .int .u64 ky, .int .i64 xn, .pointer (some ⟨γ1 0, 0, none⟩), zz, zz, zz, zz, zz, zz, zz, zz, zz, zz, zz, zz]
set_option maxHeartbeats 8000000 in
set_option maxRecDepth 100000 in
theorem pput1 {w : World} {gm : Nat} {clk : Nat} {E1 : List EN} {E2 : List EN} {bn : Nat} {Ae : Option Addr} {ce : Nat} {il : List Int} {ky : Int} {xn : Int} (hno : ∀ x ∈ E1, x.1 ≠ ky) (hil : il.length ≤ 1000) (hown : HoldR w [mapA gm (E1.map entM ++ entM (ky, bn, (Ae, ce), il) :: E2.map entM) clk, bun (E1.map rowE ++ rowE (ky, bn, (Ae, ce), il) :: E2.map rowE)]) : Calls Try.prog 18 #[.agg #[.map (some gm)], .int .u64 ky, .int .i64 xn] w fun e W => ∃ x : (Option Addr) × Nat, e = .returned (.tuple #[]) ∧ HoldR W ([mapA gm (E1.map entM ++ entM (ky, bn, ((x.1), (x.2)), il ++ [xn]) :: E2.map entM) clk, bun (E1.map rowE ++ rowE (ky, bn, ((x.1), (x.2)), il ++ [xn]) :: E2.map rowE)] ++ [oldF w [mapA gm (E1.map entM ++ entM (ky, bn, (Ae, ce), il) :: E2.map entM) clk, bun (E1.map rowE ++ rowE (ky, bn, (Ae, ce), il) :: E2.map rowE)]]) := by
  refine enterF (args := [.agg #[.map (some gm)], .int .u64 ky, .int .i64 xn]) (fn := Try.f18) (L := []) (F0 := [mapA gm (E1.map entM ++ entM (ky, bn, (Ae, ce), il) :: E2.map entM) clk, bun (E1.map rowE ++ rowE (ky, bn, (Ae, ce), il) :: E2.map rowE)]) rfl (c := bdy Try.f18) (by kernel_rfl) hown ?_
  refine bo 1 (L1 := E1.map rowE) (L2 := E2.map rowE) (A := rowA 3 1 (.slice Ae il.length ce) il.length (il.flatMap encT3)) rfl ?_
  refine ck 1 [] [] fun γ1 => ⟨⟨kt (bdy Try.f18) [1] [], (pp0_l0 gm ky xn γ1), [(γ1 0, 38, [.map (some gm)])]⟩, [], [], by kernel_rfl, .nil, ?_⟩
  refine dr [] [] .nil ?_
  refine df [0, 1, 2, 3, 4, 5, 7] [(2, 0)] [] [(2, γ1 0)] [] .nil ?_
  refine dlk (ke := 27) (k := .int .u64 ky) (z := .slice none 0 0) (ok := false) (es := E1.map entM ++ entM (ky, bn, (Ae, ce), il) :: E2.map entM) 6 1 (some (E1.length, .slice Ae il.length ce)) rfl (fun W => fk_some (e := (ky, bn, (Ae, ce), il)) hno W) (fun b W => by kernel_rfl) ?_
  refine dn 8 (v := fun g2 => .slice (some ⟨g2, 0, none⟩) 1 1) (b := fun g2 => (g2, 3, [.int .i64 xn])) (fun g L => by kernel_rfl) fun g2 => ?_
  refine dapR [1] (m := 1) (c := 1) (g := g2) (T := 3) (cs := [.int .i64 xn]) 9 0 0 8 rfl (by first | omega | (simp only [List.length_append, List.length_cons, List.length_nil]; omega)) (by simp only [maxLen]; first | omega | (simp only [List.length_append, List.length_cons, List.length_nil]; omega)) (il ++ [xn]).length ((il ++ [xn]).flatMap encT3) (by simp) (by simp [encT3]) (.cons (RC.of (.map (some gm)) [(1, 1)] [(1, γ1 0)]) .nil) fun A3 c3 => ?_
  refine dmu (ke := 27) (k := .int .u64 ky) (v := .slice A3 ((il ++ [xn]).length) c3) (es := E1.map entM ++ entM (ky, bn, (Ae, ce), il) :: E2.map entM) 10 1 (some (E1.length, .slice Ae il.length ce)) (E1.map entM ++ entM (ky, bn, (A3, c3), il ++ [xn]) :: E2.map entM) clk rfl (fun W => fk_some (e := (ky, bn, (Ae, ce), il)) hno W) (fun b W => by kernel_rfl) (same_key (e := (ky, bn, (Ae, ce), il))) (mu_some (e := (ky, bn, (Ae, ce), il)) A3 c3 (il ++ [xn])) ?_
  refine de (fs := (kt (bdy Try.f18) [1] []).tail) ?_
  refine st0 (fs := (kt (bdy Try.f18) [1] []).tail) (upv (pp0_l0 gm ky xn γ1) [(6, .pointer (some ⟨γ1 0, 0, none⟩)), (7, .map (some gm)), (8, .int .u64 ky), (9, .pointer (some ⟨γ1 0, 0, none⟩)), (10, .map (some gm)), (11, .int .u64 ky), (12, .slice Ae il.length ce), (13, .int .i64 xn), (14, .slice (some ⟨g2, 0, none⟩) 1 1), (15, .slice A3 ((il ++ [xn]).length) c3)]) [(g2, 3, [.int .i64 xn]), (γ1 0, 38, [.map (some gm)])] ?_
  refine bc 1 (L1 := E1.map rowE) (L2 := E2.map rowE) (A := rowE (ky, bn, (A3, c3), il ++ [xn])) rfl ?_
  refine rtL (.tuple #[]) [] [] ([(g2, 3, [.int .i64 xn]), (γ1 0, 38, [.map (some gm)])]) (fun W hW => ?_)
  exact ⟨⟨A3, c3⟩, rfl, hW.ix [2, 3, 4] (by decide) rfl⟩
theorem pput_is {w : World} {gm clk : Nat} {en : List EN} {ky xn : Int} (hb : ∀ e ∈ en, e.2.2.2.length ≤ 1000) (hown : HoldR w [mapA gm (en.map entM) clk, bun (en.map rowE)]) : Calls Try.prog 18 #[.agg #[.map (some gm)], .int .u64 ky, .int .i64 xn] w fun e W => ∃ x : Option Addr × Nat, e = .returned (.tuple #[]) ∧ HoldR W ([mapA gm ((putE en ky clk xn x.1 x.2).map entM) (ckE en ky clk), bun ((putE en ky clk xn x.1 x.2).map rowE)] ++ [oldF w [mapA gm (en.map entM) clk, bun (en.map rowE)]]) := by
  rcases key_split (h := ky) en with hno | ⟨E1, e, E2, rfl, rfl, hno⟩
  · simp only [putE_none hno, ckE_none hno, List.map_append, List.map_cons, List.map_nil]
    exact pput0 hno hown
  · obtain ⟨k1, b1', ⟨A1, c1'⟩, il⟩ := e
    have hil : il.length ≤ 1000 := hb _ (List.mem_append_right _ List.mem_cons_self)
    have e1 : ∀ A c, putE (E1 ++ (k1, b1', (A1, c1'), il) :: E2) k1 clk xn A c = E1 ++ (k1, b1', (A, c), il ++ [xn]) :: E2 := fun A c => putE_some (e := (k1, b1', (A1, c1'), il)) hno
    have e2 : ckE (E1 ++ (k1, b1', (A1, c1'), il) :: E2) k1 clk = clk := ckE_some (e := (k1, b1', (A1, c1'), il))
    simp only [e1, e2, List.map_append, List.map_cons] at hown ⊢
    exact pput1 hno hil hown
end Go.Proofs.Ytkkbhllljafdfaa.Sr
