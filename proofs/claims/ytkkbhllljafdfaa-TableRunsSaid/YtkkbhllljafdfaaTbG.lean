/- Put, joined; what is told by the law of its own rows. No condition beside those that each theorem names. -/
import Derived.Test.YtkkbhllljafdfaaTbE
import Derived.Test.YtkkbhllljafdfaaTbF
namespace Go.Proofs.Ytkkbhllljafdfaa.Sr
open Go.RowKit Go.Proofs.YtkkbhllljafdfaaM.Mach
set_option linter.unusedVariables false
set_option linter.unusedSimpArgs false
theorem putj_0 {w : World} {g : Nat} {gm : Nat} {clk : Nat} {Ar : Option Addr} {cr : Nat} {rs : List R2} {cn : Nat} {en : List EN} {ky : Int} {sx : ByteArray} (hrs : rs.length ≤ 999) (hT : TINV rs en) (hix : ¬ ixR rs ky sx < rs.length) (hu : ¬ ∃ n, n < rs.length ∧ (rs[n]!).1 = ky) (hcn : cn ≤ 1000) (hown : HoldR w [blkA (g, 41, [.map (some gm), .slice Ar rs.length cr, .int .i64 (cn : Int)]), rowA 47 2 (.slice Ar rs.length cr) rs.length (rs.flatMap encT47), mapA gm (en.map entM) clk, bun (en.map rowE)]) : Calls Try.prog 9 #[.pointer (some ⟨g, 0, none⟩), .int .u64 ky, .string sx] w fun e W => ∃ x : (Option Addr) × Nat × (Option Addr) × Nat, e = .returned (.tuple #[.int .i64 ((rs.length : Nat) : Int), .bool true]) ∧ HoldR W ([blkA (g, 41, [.map (some gm), .slice x.2.2.1 (rs ++ [(ky, sx)]).length x.2.2.2, .int .i64 (cn : Int)]), rowA 47 2 (.slice x.2.2.1 (rs ++ [(ky, sx)]).length x.2.2.2) (rs ++ [(ky, sx)]).length ((rs ++ [(ky, sx)]).flatMap encT47), mapA gm ((putE en ky clk ((rs.length : Nat) : Int) x.1 x.2.1).map entM) (ckE en ky clk), bun ((putE en ky clk ((rs.length : Nat) : Int) x.1 x.2.1).map rowE)] ++ [oldF w [blkA (g, 41, [.map (some gm), .slice Ar rs.length cr, .int .i64 (cn : Int)]), rowA 47 2 (.slice Ar rs.length cr) rs.length (rs.flatMap encT47), mapA gm (en.map entM) clk, bun (en.map rowE)]]) := by
  exact put_n0 hrs hT hix (fun e he h => hu ((key_iff hT).2 ⟨e, he, h⟩)) hown
theorem putj_1 {w : World} {g : Nat} {gm : Nat} {clk : Nat} {Ar : Option Addr} {cr : Nat} {rs : List R2} {cn : Nat} {en : List EN} {ky : Int} {sx : ByteArray} (hrs : rs.length ≤ 999) (hT : TINV rs en) (hix : ¬ ixR rs ky sx < rs.length) (hu :  ∃ n, n < rs.length ∧ (rs[n]!).1 = ky) (hcn : cn ≤ 1000) (hown : HoldR w [blkA (g, 41, [.map (some gm), .slice Ar rs.length cr, .int .i64 (cn : Int)]), rowA 47 2 (.slice Ar rs.length cr) rs.length (rs.flatMap encT47), mapA gm (en.map entM) clk, bun (en.map rowE)]) : Calls Try.prog 9 #[.pointer (some ⟨g, 0, none⟩), .int .u64 ky, .string sx] w fun e W => ∃ x : (Option Addr) × Nat × (Option Addr) × Nat, e = .returned (.tuple #[.int .i64 ((rs.length : Nat) : Int), .bool true]) ∧ HoldR W ([blkA (g, 41, [.map (some gm), .slice x.2.2.1 (rs ++ [(ky, sx)]).length x.2.2.2, .int .i64 ((cn + 1 : Nat) : Int)]), rowA 47 2 (.slice x.2.2.1 (rs ++ [(ky, sx)]).length x.2.2.2) (rs ++ [(ky, sx)]).length ((rs ++ [(ky, sx)]).flatMap encT47), mapA gm ((putE en ky clk ((rs.length : Nat) : Int) x.1 x.2.1).map entM) (ckE en ky clk), bun ((putE en ky clk ((rs.length : Nat) : Int) x.1 x.2.1).map rowE)] ++ [oldF w [blkA (g, 41, [.map (some gm), .slice Ar rs.length cr, .int .i64 (cn : Int)]), rowA 47 2 (.slice Ar rs.length cr) rs.length (rs.flatMap encT47), mapA gm (en.map entM) clk, bun (en.map rowE)]]) := by
  rcases key_split (h := ky) en with hno | ⟨E1, e, E2, hE, hk, hno⟩
  · obtain ⟨e, he, h⟩ := (key_iff hT).1 hu
    exact absurd h (hno e he)
  · obtain ⟨k1, b1', ⟨A1, c1'⟩, il⟩ := e
    simp only at hk
    subst hk
    exact put_n1 hrs hT hix hE hno hcn hown
theorem get_hiv {w : World} {g : Nat} {gm : Nat} {clk : Nat} {Ar : Option Addr} {cr : Nat} {rs : List R2} {cn : Nat} {en : List EN} {x9 : Int} (hx : x9 = ((rs.length : Nat) : Int)) (hown : HoldR w [blkA (g, 41, [.map (some gm), .slice Ar rs.length cr, .int .i64 (cn : Int)]), rowA 47 2 (.slice Ar rs.length cr) rs.length (rs.flatMap encT47), mapA gm (en.map entM) clk, bun (en.map rowE)]) : Calls Try.prog 14 #[.pointer (some ⟨g, 0, none⟩), .int .i64 x9] w fun e W => ∃ x : Unit, e = .returned (.tuple #[.int .u64 0, .string ⟨#[]⟩, .bool false]) ∧ HoldR W ([blkA (g, 41, [.map (some gm), .slice Ar rs.length cr, .int .i64 (cn : Int)]), rowA 47 2 (.slice Ar rs.length cr) rs.length (rs.flatMap encT47), mapA gm (en.map entM) clk, bun (en.map rowE)] ++ [oldF w [blkA (g, 41, [.map (some gm), .slice Ar rs.length cr, .int .i64 (cn : Int)]), rowA 47 2 (.slice Ar rs.length cr) rs.length (rs.flatMap encT47), mapA gm (en.map entM) clk, bun (en.map rowE)]]) := by
  subst hx
  exact get_hi hown
theorem get_atv {w : World} {g : Nat} {gm : Nat} {clk : Nat} {Ar : Option Addr} {cr : Nat} {rs : List R2} {cn : Nat} {en : List EN} {n9 : Nat} {x9 : Int} (hx : x9 = ((n9 : Nat) : Int)) (hn : n9 < rs.length) (hrs : rs.length ≤ 1000) (hown : HoldR w [blkA (g, 41, [.map (some gm), .slice Ar rs.length cr, .int .i64 (cn : Int)]), rowA 47 2 (.slice Ar rs.length cr) rs.length (rs.flatMap encT47), mapA gm (en.map entM) clk, bun (en.map rowE)]) : Calls Try.prog 14 #[.pointer (some ⟨g, 0, none⟩), .int .i64 x9] w fun e W => ∃ x : Unit, e = .returned (.tuple #[.int .u64 ((rs[n9]!).1), .string ((rs[n9]!).2), .bool true]) ∧ HoldR W ([blkA (g, 41, [.map (some gm), .slice Ar rs.length cr, .int .i64 (cn : Int)]), rowA 47 2 (.slice Ar rs.length cr) rs.length (rs.flatMap encT47), mapA gm (en.map entM) clk, bun (en.map rowE)] ++ [oldF w [blkA (g, 41, [.map (some gm), .slice Ar rs.length cr, .int .i64 (cn : Int)]), rowA 47 2 (.slice Ar rs.length cr) rs.length (rs.flatMap encT47), mapA gm (en.map entM) clk, bun (en.map rowE)]]) := by
  subst hx
  exact get_at hn hrs hown
def pe_l0 (Aw : Option Addr) (kw : Nat) (wl : List RW) (ky : Int) (sx : ByteArray) (fl : Bool) (γ1 : Nat → Nat) : List Value := [.slice Aw wl.length kw, .agg #[.int .u64 ky, .string sx, .bool fl], zz, .pointer (some ⟨γ1 0, 0, none⟩), .int .i64 0, .int .i64 0, zz, zz, zz, zz, zz, zz, zz, zz, zz, zz]
def pe_l1 : List Value := [zz, zz, zz, zz, zz, zz, zz, zz, zz, zz, zz, zz, zz, zz, zz]
def pe_b2 (Aw : Option Addr) (kw : Nat) (wl : List RW) (ky : Int) (sx : ByteArray) (fl : Bool) (γ1 : Nat → Nat) : List Value := (pe_l0 Aw kw wl ky sx fl γ1) ++ (pe_l1)
def pe_c3 (ky : Int) (sx : ByteArray) (fl : Bool) : List Value := [.int .u64 ky, .string sx, .bool fl]
def pe_l4 (Aw : Option Addr) (kw : Nat) (wl : List RW) (ky : Int) (sx : ByteArray) (fl : Bool) (γ1 : Nat → Nat) (z2 : Nat → Value) (i : Nat) : List Value := [.slice Aw wl.length kw, .agg #[.int .u64 ky, .string sx, .bool fl], zz, .pointer (some ⟨γ1 0, 0, none⟩), z2 4, .int .i64 (i : Int), z2 6, z2 7, z2 8, z2 9, z2 10, z2 11, z2 12, z2 13, z2 14, z2 15]
def pe_l5 (z2 : Nat → Value) : List Value := [z2 16, z2 17, z2 18, z2 19, z2 20, z2 21, z2 22, z2 23, z2 24, z2 25, z2 26, z2 27, z2 28, z2 29, z2 30]
def pe_b6 (Aw : Option Addr) (kw : Nat) (wl : List RW) (ky : Int) (sx : ByteArray) (fl : Bool) (γ1 : Nat → Nat) (z2 : Nat → Value) (i : Nat) : List Value := (pe_l4 Aw kw wl ky sx fl γ1 z2 i) ++ ((pe_l5 z2))
abbrev pe_2X := (Nat → Value) × Nat
def pe_2s (Aw : Option Addr) (kw : Nat) (wl : List RW) (ky : Int) (sx : ByteArray) (fl : Bool) (γ1 : Nat → Nat) (x : pe_2X) : List Value × List Blk := ((pe_b6 Aw kw wl ky sx fl γ1 (x.1) (x.2)), [(γ1 0, 29, (pe_c3 ky sx fl))])
def pe_2k (Aw : Option Addr) (kw : Nat) (wl : List RW) (ky : Int) (sx : ByteArray) (fl : Bool) (γ1 : Nat → Nat) (x : pe_2X) : Prop := (∀ m, m < (x.2) → (wl.map pr)[m]! ≠ (ky, sx)) ∧ (x.2) ≤ wl.length
def pe_2m (Aw : Option Addr) (kw : Nat) (wl : List RW) (ky : Int) (sx : ByteArray) (fl : Bool) (γ1 : Nat → Nat) (x : pe_2X) : Nat := wl.length - (x.2)
def pe_2F (Aw : Option Addr) (kw : Nat) (wl : List RW) (ky : Int) (sx : ByteArray) (fl : Bool) (γ1 : Nat → Nat) (w : World) (x : pe_2X) : List Asrt := [old w]
abbrev pe_2I (Aw : Option Addr) (kw : Nat) (wl : List RW) (ky : Int) (sx : ByteArray) (fl : Bool) (γ1 : Nat → Nat) (w : World) (x : pe_2X) : Act → World → Prop := Inv (pe_2s Aw kw wl ky sx fl γ1) (pe_2F Aw kw wl ky sx fl γ1 w) (pe_2k Aw kw wl ky sx fl γ1) (pe_2m Aw kw wl ky sx fl γ1) x
def pe_l13 (Aw : Option Addr) (kw : Nat) (wl : List RW) (ky : Int) (sx : ByteArray) (fl : Bool) (γ1 : Nat → Nat) (z2 : Nat → Value) (i : Nat) (B : Nat) (o1 : Nat) : List Value := [.slice Aw wl.length kw, .agg #[.int .u64 ky, .string sx, .bool fl], zz, .pointer (some ⟨γ1 0, 0, none⟩), z2 4, .int .i64 (i : Int), .int .i64 (i : Int), .slice Aw wl.length kw, .int .i64 ((wl.length : Nat) : Int), .bool true, z2 10, z2 11, .slice Aw wl.length kw, .int .i64 (i : Int), .pointer (some ⟨B, o1 + i * 3, none⟩), .pointer (some ⟨B, o1 + i * 3, none⟩)]
def pe_l14 (Aw : Option Addr) (kw : Nat) (wl : List RW) (ky : Int) (sx : ByteArray) (γ1 : Nat → Nat) (z2 : Nat → Value) (i : Nat) (B : Nat) (o1 : Nat) : List Value := [.int .u64 ((wl[i]!).1), .pointer (some ⟨γ1 0, 0, none⟩), .int .u64 ky, .bool true, .bool true, .slice Aw wl.length kw, .int .i64 (i : Int), .pointer (some ⟨B, o1 + i * 3, none⟩), .pointer (some ⟨B, o1 + i * 3 + 1, none⟩), .string ((wl[i]!).2.1), .pointer (some ⟨γ1 0, 1, none⟩), .string sx, .bool true, .bool true, z2 30]
def pe_b15 (Aw : Option Addr) (kw : Nat) (wl : List RW) (ky : Int) (sx : ByteArray) (fl : Bool) (γ1 : Nat → Nat) (z2 : Nat → Value) (i : Nat) (B : Nat) (o1 : Nat) : List Value := (pe_l13 Aw kw wl ky sx fl γ1 z2 i B o1) ++ ((pe_l14 Aw kw wl ky sx γ1 z2 i B o1))
def pe_l16 (Aw : Option Addr) (kw : Nat) (wl : List RW) (ky : Int) (sx : ByteArray) (γ1 : Nat → Nat) (z2 : Nat → Value) (i : Nat) (B : Nat) (o1 : Nat) : List Value := [.int .u64 ((wl[i]!).1), .pointer (some ⟨γ1 0, 0, none⟩), .int .u64 ky, .bool true, .bool true, .slice Aw wl.length kw, .int .i64 (i : Int), .pointer (some ⟨B, o1 + i * 3, none⟩), .pointer (some ⟨B, o1 + i * 3 + 1, none⟩), .string ((wl[i]!).2.1), .pointer (some ⟨γ1 0, 1, none⟩), .string sx, .bool false, .bool false, z2 30]
def pe_b17 (Aw : Option Addr) (kw : Nat) (wl : List RW) (ky : Int) (sx : ByteArray) (fl : Bool) (γ1 : Nat → Nat) (z2 : Nat → Value) (i : Nat) (B : Nat) (o1 : Nat) : List Value := (pe_l13 Aw kw wl ky sx fl γ1 z2 i B o1) ++ ((pe_l16 Aw kw wl ky sx γ1 z2 i B o1))
def pe_l18 (wl : List RW) (ky : Int) (γ1 : Nat → Nat) (z2 : Nat → Value) (i : Nat) : List Value := [.int .u64 ((wl[i]!).1), .pointer (some ⟨γ1 0, 0, none⟩), .int .u64 ky, .bool false, .bool false, zz, zz, zz, zz, zz, zz, zz, zz, .bool false, z2 30]
def pe_b19 (Aw : Option Addr) (kw : Nat) (wl : List RW) (ky : Int) (sx : ByteArray) (fl : Bool) (γ1 : Nat → Nat) (z2 : Nat → Value) (i : Nat) (B : Nat) (o1 : Nat) : List Value := (pe_l13 Aw kw wl ky sx fl γ1 z2 i B o1) ++ ((pe_l18 wl ky γ1 z2 i))
set_option maxHeartbeats 8000000 in
set_option maxRecDepth 100000 in
theorem place_is {w : World} {Aw : Option Addr} {kw : Nat} {wl : List RW} {ky : Int} {sx : ByteArray} {fl : Bool} (hwl : wl.length ≤ 1000) (h : Rd w (.slice Aw wl.length kw) 3 encT29 wl) : Calls Try.prog 7 #[.slice Aw wl.length kw, .agg #[.int .u64 ky, .string sx, .bool fl]] w fun e w' => e = .returned (.int .i64 (plc wl ky sx)) ∧ Below w.heap.size w w' := by
  refine enter (args := [.slice Aw wl.length kw, .agg #[.int .u64 ky, .string sx, .bool fl]]) (fn := Try.f7) rfl (c := bdy Try.f7) (by kernel_rfl) ?_
  refine ck 3 [] [] fun γ1 => ⟨⟨kt (bdy Try.f7) [1, 0, 1, 0] [], (pe_b2 Aw kw wl ky sx fl γ1), [(γ1 0, 29, (pe_c3 ky sx fl))]⟩, [], [], by kernel_rfl, .nil, ?_⟩
  refine lp (pe_2s Aw kw wl ky sx fl γ1) (pe_2F Aw kw wl ky sx fl γ1 w) (pe_2k Aw kw wl ky sx fl γ1) (pe_2m Aw kw wl ky sx fl γ1) ((fun mm => ((pe_b2 Aw kw wl ky sx fl γ1)).getD mm zz, 0)) (kt (bdy Try.f7) [1, 0, 1, 0] []) ⟨fun m hm => absurd hm (Nat.not_lt_zero m), Nat.zero_le _⟩ rfl ?_
  rintro ⟨z2, i⟩ hok
  obtain ⟨hall, hi⟩ : (∀ m, m < i → (wl.map pr)[m]! ≠ (ky, sx)) ∧ i ≤ wl.length := hok
  refine st1 (ktl [] (pe_2I Aw kw wl ky sx fl γ1 w (z2, i)) (kt (bdy Try.f7) [1, 0, 1, 0] [])) ((pe_b6 Aw kw wl ky sx fl γ1 z2 i)) [(γ1 0, 29, (pe_c3 ky sx fl))] ?_
  by_cases hii : i < wl.length
  · skip
    refine ck 4 [] [(3, .bool true)] fun γ3 => ⟨⟨ktl [1, 0, 0, 0] (pe_2I Aw kw wl ky sx fl γ1 w (z2, i)) (kt (bdy Try.f7) [1, 0, 1, 0] []), upv (pe_b6 Aw kw wl ky sx fl γ1 z2 i) [(6, .int .i64 (i : Int)), (7, .slice Aw wl.length kw), (8, .int .i64 ((wl.length : Nat) : Int)), (9, .bool true)], [(γ1 0, 29, (pe_c3 ky sx fl))]⟩, [], [Value.bool (decide (((i : Int) : Int) < ((wl.length : Nat) : Int))) = .bool true], by kernel_rfl, (.cons (cbT (by omega)) .nil), ?_⟩
    have hq : ((wl[i]!).1 = ky ∧ (wl[i]!).2.1 = sx) ∨ ((wl[i]!).1 = ky ∧ ¬ (wl[i]!).2.1 = sx) ∨ ¬ (wl[i]!).1 = ky := by
      by_cases h8 : (wl[i]!).1 = ky
      · by_cases h9 : (wl[i]!).2.1 = sx
        · exact .inl ⟨h8, h9⟩
        · exact .inr (.inl ⟨h8, h9⟩)
      · exact .inr (.inr h8)
    rcases hq with ⟨hk, hs⟩ | ⟨hk, hs⟩ | hk
    · skip
      have hres := plc_at hii hk hs hall
      obtain ⟨B, o1, hAe, hat⟩ := h.at (i := i) hii
      refine dr [] [] .nil ?_
      refine df [0, 1, 5, 6] [(1, 0)] [] [(1, γ1 0)] [] .nil ?_
      refine dixr 2 (n := wl.length) (sz := 3) (j := (i : Int)) hAe i (by omega) ?_
      refine df [3] [] [] [] [] .nil ?_
      refine dldr 4 (n := 1) (row := false) [.int .u64 ((wl[i]!).1)] (fun W hW => (hat.below (hW.old 0 rfl)).ld (i := i) (by omega) 0 [.int .u64 ((wl[i]!).1)] rfl) ?_
      refine df [7, 8, 9, 10, 14, 15] [(1, 0)] [(7, .bool true)] [(1, γ1 0)] [Value.bool ((((wl[i]!).1) : Int) == ky) = .bool true] (.cons (cbE hk) .nil) ?_
      refine dixr 11 (n := wl.length) (sz := 3) (j := (i : Int)) hAe i (by omega) ?_
      refine df [12] [] [] [] [] .nil ?_
      refine dldr 13 (n := 1) (row := false) [.string ((wl[i]!).2.1)] (fun W hW => (hat.below (hW.old 0 rfl)).ld (i := i) (by omega) 1 [.string ((wl[i]!).2.1)] rfl) ?_
      refine df [16, 17] [] [(16, .bool true)] [] [Value.bool (ByteArray.toList ((wl[i]!).2.1) == ByteArray.toList (sx)) = .bool true] (.cons (seT hs) .nil) ?_
      refine de (fs := (ktl [1, 0, 0, 0] (pe_2I Aw kw wl ky sx fl γ1 w (z2, i)) (kt (bdy Try.f7) [1, 0, 1, 0] [])).tail) ?_
      refine st0 (fs := (ktl [1, 0, 0, 0] (pe_2I Aw kw wl ky sx fl γ1 w (z2, i)) (kt (bdy Try.f7) [1, 0, 1, 0] [])).tail) ((pe_b15 Aw kw wl ky sx fl γ1 z2 i B o1)) [(γ1 0, 29, (pe_c3 ky sx fl))] ?_
      refine ck 2 [] [] fun γ4 => ⟨⟨ktl [1, 0, 0, 1, 0, 1] (pe_2I Aw kw wl ky sx fl γ1 w (z2, i)) (kt (bdy Try.f7) [1, 0, 1, 0] []), upv (pe_b15 Aw kw wl ky sx fl γ1 z2 i B o1) [(4, .int .i64 (i : Int)), (30, .int .i64 (i : Int))], [(γ1 0, 29, (pe_c3 ky sx fl))]⟩, [], [], by kernel_rfl, .nil, ?_⟩
      rw [hres]
      refine rt (.int .i64 (i : Int)) [] [] (fun W hW => ?_)
      exact ⟨rfl, (hW.old 0 rfl)⟩
    · skip
      have hne : ((wl[i]!).1, (wl[i]!).2.1) ≠ (ky, sx) := fun e => hs (congrArg Prod.snd e)
      obtain ⟨B, o1, hAe, hat⟩ := h.at (i := i) hii
      refine dr [] [] .nil ?_
      refine df [0, 1, 5, 6] [(1, 0)] [] [(1, γ1 0)] [] .nil ?_
      refine dixr 2 (n := wl.length) (sz := 3) (j := (i : Int)) hAe i (by omega) ?_
      refine df [3] [] [] [] [] .nil ?_
      refine dldr 4 (n := 1) (row := false) [.int .u64 ((wl[i]!).1)] (fun W hW => (hat.below (hW.old 0 rfl)).ld (i := i) (by omega) 0 [.int .u64 ((wl[i]!).1)] rfl) ?_
      refine df [7, 8, 9, 10, 14, 15] [(1, 0)] [(7, .bool true)] [(1, γ1 0)] [Value.bool ((((wl[i]!).1) : Int) == ky) = .bool true] (.cons (cbE hk) .nil) ?_
      refine dixr 11 (n := wl.length) (sz := 3) (j := (i : Int)) hAe i (by omega) ?_
      refine df [12] [] [] [] [] .nil ?_
      refine dldr 13 (n := 1) (row := false) [.string ((wl[i]!).2.1)] (fun W hW => (hat.below (hW.old 0 rfl)).ld (i := i) (by omega) 1 [.string ((wl[i]!).2.1)] rfl) ?_
      refine df [16, 17] [] [(16, .bool false)] [] [Value.bool (ByteArray.toList ((wl[i]!).2.1) == ByteArray.toList (sx)) = .bool false] (.cons (seF (sne hs)) .nil) ?_
      refine de (fs := (ktl [1, 0, 0, 0] (pe_2I Aw kw wl ky sx fl γ1 w (z2, i)) (kt (bdy Try.f7) [1, 0, 1, 0] [])).tail) ?_
      refine st0 (fs := (ktl [1, 0, 0, 0] (pe_2I Aw kw wl ky sx fl γ1 w (z2, i)) (kt (bdy Try.f7) [1, 0, 1, 0] [])).tail) ((pe_b17 Aw kw wl ky sx fl γ1 z2 i B o1)) [(γ1 0, 29, (pe_c3 ky sx fl))] ?_
      refine ck 3 [] [(1, .int .i64 ((i + 1 : Nat) : Int))] fun γ5 => ⟨⟨ktp (pe_2I Aw kw wl ky sx fl γ1 w (z2, i)) (kt (bdy Try.f7) [1, 0, 1, 0] []), upv (pe_b17 Aw kw wl ky sx fl γ1 z2 i B o1) [(5, .int .i64 ((i + 1 : Nat) : Int)), (10, .int .i64 (i : Int)), (11, .int .i64 ((i + 1 : Nat) : Int))], [(γ1 0, 29, (pe_c3 ky sx fl))]⟩, [], [Value.int .i64 (IntKind.wrap .i64 ((i : Int) + 1)) = .int .i64 ((i + 1 : Nat) : Int)], by kernel_rfl, (.cons (congrArg (Value.int .i64) (by rw [IntKind.wrap_i64]; omega)) .nil), ?_⟩
      exact nx (st := pe_2s Aw kw wl ky sx fl γ1) (F' := pe_2F Aw kw wl ky sx fl γ1 w) (ok := pe_2k Aw kw wl ky sx fl γ1) (μ := pe_2m Aw kw wl ky sx fl γ1) (x := (z2, i)) (fun mm => (upv (pe_b17 Aw kw wl ky sx fl γ1 z2 i B o1) [(5, .int .i64 ((i + 1 : Nat) : Int)), (10, .int .i64 (i : Int)), (11, .int .i64 ((i + 1 : Nat) : Int))]).getD mm zz, (i + 1)) (show (∀ m, m < (i + 1) → (wl.map pr)[m]! ≠ (ky, sx)) ∧ (i + 1) ≤ wl.length from ⟨fun m hm => by
                by_cases hmi : m < i
                · exact hall m hmi
                · obtain rfl : m = i := by omega
                  rw [pr_at hii]
                  exact hne, by omega⟩) (by show _ < _; simp only [pe_2m]; omega) 0 0 rfl
    · skip
      have hne : ((wl[i]!).1, (wl[i]!).2.1) ≠ (ky, sx) := fun e => hk (congrArg Prod.fst e)
      obtain ⟨B, o1, hAe, hat⟩ := h.at (i := i) hii
      refine dr [] [] .nil ?_
      refine df [0, 1, 5, 6] [(1, 0)] [] [(1, γ1 0)] [] .nil ?_
      refine dixr 2 (n := wl.length) (sz := 3) (j := (i : Int)) hAe i (by omega) ?_
      refine df [3] [] [] [] [] .nil ?_
      refine dldr 4 (n := 1) (row := false) [.int .u64 ((wl[i]!).1)] (fun W hW => (hat.below (hW.old 0 rfl)).ld (i := i) (by omega) 0 [.int .u64 ((wl[i]!).1)] rfl) ?_
      refine df [7, 8, 9, 10, 11, 12, 13, 14, 15, 16, 17] [] [(7, .bool false)] [] [Value.bool ((((wl[i]!).1) : Int) == ky) = .bool false] (.cons (cbN hk) .nil) ?_
      refine de (fs := (ktl [1, 0, 0, 0] (pe_2I Aw kw wl ky sx fl γ1 w (z2, i)) (kt (bdy Try.f7) [1, 0, 1, 0] [])).tail) ?_
      refine st0 (fs := (ktl [1, 0, 0, 0] (pe_2I Aw kw wl ky sx fl γ1 w (z2, i)) (kt (bdy Try.f7) [1, 0, 1, 0] [])).tail) ((pe_b19 Aw kw wl ky sx fl γ1 z2 i B o1)) [(γ1 0, 29, (pe_c3 ky sx fl))] ?_
      refine ck 3 [] [(1, .int .i64 ((i + 1 : Nat) : Int))] fun γ6 => ⟨⟨ktp (pe_2I Aw kw wl ky sx fl γ1 w (z2, i)) (kt (bdy Try.f7) [1, 0, 1, 0] []), upv (pe_b19 Aw kw wl ky sx fl γ1 z2 i B o1) [(5, .int .i64 ((i + 1 : Nat) : Int)), (10, .int .i64 (i : Int)), (11, .int .i64 ((i + 1 : Nat) : Int))], [(γ1 0, 29, (pe_c3 ky sx fl))]⟩, [], [Value.int .i64 (IntKind.wrap .i64 ((i : Int) + 1)) = .int .i64 ((i + 1 : Nat) : Int)], by kernel_rfl, (.cons (congrArg (Value.int .i64) (by rw [IntKind.wrap_i64]; omega)) .nil), ?_⟩
      exact nx (st := pe_2s Aw kw wl ky sx fl γ1) (F' := pe_2F Aw kw wl ky sx fl γ1 w) (ok := pe_2k Aw kw wl ky sx fl γ1) (μ := pe_2m Aw kw wl ky sx fl γ1) (x := (z2, i)) (fun mm => (upv (pe_b19 Aw kw wl ky sx fl γ1 z2 i B o1) [(5, .int .i64 ((i + 1 : Nat) : Int)), (10, .int .i64 (i : Int)), (11, .int .i64 ((i + 1 : Nat) : Int))]).getD mm zz, (i + 1)) (show (∀ m, m < (i + 1) → (wl.map pr)[m]! ≠ (ky, sx)) ∧ (i + 1) ≤ wl.length from ⟨fun m hm => by
                by_cases hmi : m < i
                · exact hall m hmi
                · obtain rfl : m = i := by omega
                  rw [pr_at hii]
                  exact hne, by omega⟩) (by show _ < _; simp only [pe_2m]; omega) 0 0 rfl
  · skip
    have hres := plc_no (fun m hm => hall m (by omega))
    refine ck 5 [] [(3, .bool false)] fun γ7 => ⟨⟨kt (bdy Try.f7) [1, 1, 1] [], upv (pe_b6 Aw kw wl ky sx fl γ1 z2 i) [(4, .int .i64 (-1)), (6, .int .i64 (i : Int)), (7, .slice Aw wl.length kw), (8, .int .i64 ((wl.length : Nat) : Int)), (9, .bool false)], [(γ1 0, 29, (pe_c3 ky sx fl))]⟩, [], [Value.bool (decide (((i : Int) : Int) < ((wl.length : Nat) : Int))) = .bool false], by kernel_rfl, (.cons (cbF (by omega)) .nil), ?_⟩
    rw [hres]
    refine rt (.int .i64 (-1)) [] [] (fun W hW => ?_)
    exact ⟨rfl, (hW.old 0 rfl)⟩
def ue_l0 (Aw : Option Addr) (kw : Nat) (wl : List RW) (ky : Int) : List Value := [.slice Aw wl.length kw, .int .u64 ky, zz, zz, .bool false, .int .i64 0, zz, zz, zz, zz, zz, zz, zz, zz, zz, zz]
def ue_l1 : List Value := [zz, zz, zz]
def ue_b2 (Aw : Option Addr) (kw : Nat) (wl : List RW) (ky : Int) : List Value := (ue_l0 Aw kw wl ky) ++ (ue_l1)
def ue_l3 (Aw : Option Addr) (kw : Nat) (wl : List RW) (ky : Int) (z2 : Nat → Value) (i : Nat) : List Value := [.slice Aw wl.length kw, .int .u64 ky, zz, zz, z2 4, .int .i64 (i : Int), z2 6, z2 7, z2 8, z2 9, z2 10, z2 11, z2 12, z2 13, z2 14, z2 15]
def ue_l4 (z2 : Nat → Value) : List Value := [z2 16, z2 17, z2 18]
def ue_b5 (Aw : Option Addr) (kw : Nat) (wl : List RW) (ky : Int) (z2 : Nat → Value) (i : Nat) : List Value := (ue_l3 Aw kw wl ky z2 i) ++ ((ue_l4 z2))
abbrev ue_2X := (Nat → Value) × Nat
def ue_2s (Aw : Option Addr) (kw : Nat) (wl : List RW) (ky : Int) (x : ue_2X) : List Value × List Blk := ((ue_b5 Aw kw wl ky (x.1) (x.2)), [])
def ue_2k (Aw : Option Addr) (kw : Nat) (wl : List RW) (ky : Int) (x : ue_2X) : Prop := (∀ m, m < (x.2) → (wl[m]!).1 ≠ ky) ∧ (x.2) ≤ wl.length
def ue_2m (Aw : Option Addr) (kw : Nat) (wl : List RW) (ky : Int) (x : ue_2X) : Nat := wl.length - (x.2)
def ue_2F (Aw : Option Addr) (kw : Nat) (wl : List RW) (ky : Int) (w : World) (x : ue_2X) : List Asrt := [old w]
abbrev ue_2I (Aw : Option Addr) (kw : Nat) (wl : List RW) (ky : Int) (w : World) (x : ue_2X) : Act → World → Prop := Inv (ue_2s Aw kw wl ky) (ue_2F Aw kw wl ky w) (ue_2k Aw kw wl ky) (ue_2m Aw kw wl ky) x
def ue_l12 (Aw : Option Addr) (kw : Nat) (wl : List RW) (ky : Int) (z2 : Nat → Value) (i : Nat) (B : Nat) (o1 : Nat) : List Value := [.slice Aw wl.length kw, .int .u64 ky, zz, zz, z2 4, .int .i64 ((i + 1 : Nat) : Int), .int .i64 (i : Int), .slice Aw wl.length kw, .int .i64 ((wl.length : Nat) : Int), .bool true, .int .i64 (i : Int), .int .i64 ((i + 1 : Nat) : Int), .slice Aw wl.length kw, .int .i64 (i : Int), .pointer (some ⟨B, o1 + i * 3, none⟩), .pointer (some ⟨B, o1 + i * 3, none⟩)]
def ue_l13 (wl : List RW) (ky : Int) (i : Nat) : List Value := [.int .u64 ((wl[i]!).1), .int .u64 ky, .bool false]
def ue_b14 (Aw : Option Addr) (kw : Nat) (wl : List RW) (ky : Int) (z2 : Nat → Value) (i : Nat) (B : Nat) (o1 : Nat) : List Value := (ue_l12 Aw kw wl ky z2 i B o1) ++ ((ue_l13 wl ky i))
set_option maxHeartbeats 8000000 in
set_option maxRecDepth 100000 in
theorem under_is {w : World} {Aw : Option Addr} {kw : Nat} {wl : List RW} {ky : Int} (hwl : wl.length ≤ 1000) (h : Rd w (.slice Aw wl.length kw) 3 encT29 wl) : Calls Try.prog 10 #[.slice Aw wl.length kw, .int .u64 ky] w fun e w' => e = .returned (.bool (undB wl ky)) ∧ Below w.heap.size w w' := by
  refine enter (args := [.slice Aw wl.length kw, .int .u64 ky]) (fn := Try.f10) rfl (c := bdy Try.f10) (by kernel_rfl) ?_
  refine ck 2 [] [] fun γ1 => ⟨⟨kt (bdy Try.f10) [1, 0, 1, 0] [], (ue_b2 Aw kw wl ky), []⟩, [], [], by kernel_rfl, .nil, ?_⟩
  refine lp (ue_2s Aw kw wl ky) (ue_2F Aw kw wl ky w) (ue_2k Aw kw wl ky) (ue_2m Aw kw wl ky) ((fun mm => ((ue_b2 Aw kw wl ky)).getD mm zz, 0)) (kt (bdy Try.f10) [1, 0, 1, 0] []) ⟨fun m hm => absurd hm (Nat.not_lt_zero m), Nat.zero_le _⟩ rfl ?_
  rintro ⟨z2, i⟩ hok
  obtain ⟨hall, hi⟩ : (∀ m, m < i → (wl[m]!).1 ≠ ky) ∧ i ≤ wl.length := hok
  refine st1 (ktl [] (ue_2I Aw kw wl ky w (z2, i)) (kt (bdy Try.f10) [1, 0, 1, 0] [])) ((ue_b5 Aw kw wl ky z2 i)) [] ?_
  by_cases hii : i < wl.length
  · skip
    obtain ⟨B, o1, hAe, hat⟩ := h.at (i := i) hii
    refine ck 6 [] [(3, .bool true)] fun γ3 => ⟨⟨ktl [1, 0, 0, 0, 2] (ue_2I Aw kw wl ky w (z2, i)) (kt (bdy Try.f10) [1, 0, 1, 0] []), upv (ue_b5 Aw kw wl ky z2 i) [(6, .int .i64 (i : Int)), (7, .slice Aw wl.length kw), (8, .int .i64 ((wl.length : Nat) : Int)), (9, .bool true), (12, .slice Aw wl.length kw), (13, .int .i64 (i : Int))], []⟩, [], [Value.bool (decide (((i : Int) : Int) < ((wl.length : Nat) : Int))) = .bool true], by kernel_rfl, (.cons (cbT (by omega)) .nil), ?_⟩
    refine ixr (n := wl.length) (sz := 3) (j := (i : Int)) hAe i (by omega) ?_
    refine ck 1 [] [] fun γ4 => ⟨⟨ktl [1, 0, 0, 0, 4] (ue_2I Aw kw wl ky w (z2, i)) (kt (bdy Try.f10) [1, 0, 1, 0] []), upv (ue_b5 Aw kw wl ky z2 i) [(6, .int .i64 (i : Int)), (7, .slice Aw wl.length kw), (8, .int .i64 ((wl.length : Nat) : Int)), (9, .bool true), (12, .slice Aw wl.length kw), (13, .int .i64 (i : Int)), (14, .pointer (some ⟨B, o1 + i * 3, none⟩)), (15, .pointer (some ⟨B, o1 + i * 3, none⟩))], []⟩, [], [], by kernel_rfl, .nil, ?_⟩
    refine ldr (n := 1) (row := false) [.int .u64 ((wl[i]!).1)] (fun W hW => (hat.below (hW.old 0 rfl)).ld (i := i) (by omega) 0 [.int .u64 ((wl[i]!).1)] rfl) ?_
    refine ck 1 [] [] fun γ5 => ⟨⟨ktl [1, 0, 0, 0, 6] (ue_2I Aw kw wl ky w (z2, i)) (kt (bdy Try.f10) [1, 0, 1, 0] []), upv (ue_b5 Aw kw wl ky z2 i) [(6, .int .i64 (i : Int)), (7, .slice Aw wl.length kw), (8, .int .i64 ((wl.length : Nat) : Int)), (9, .bool true), (12, .slice Aw wl.length kw), (13, .int .i64 (i : Int)), (14, .pointer (some ⟨B, o1 + i * 3, none⟩)), (15, .pointer (some ⟨B, o1 + i * 3, none⟩)), (16, .int .u64 ((wl[i]!).1)), (17, .int .u64 ky)], []⟩, [], [], by kernel_rfl, .nil, ?_⟩
    by_cases hk : (wl[i]!).1 = ky
    · skip
      have hres := und_at hii hk
      refine ck 2 [] [(0, .bool true)] fun γ6 => ⟨⟨ktl [1, 0, 0, 1, 0, 1] (ue_2I Aw kw wl ky w (z2, i)) (kt (bdy Try.f10) [1, 0, 1, 0] []), upv (ue_b5 Aw kw wl ky z2 i) [(4, .bool true), (6, .int .i64 (i : Int)), (7, .slice Aw wl.length kw), (8, .int .i64 ((wl.length : Nat) : Int)), (9, .bool true), (12, .slice Aw wl.length kw), (13, .int .i64 (i : Int)), (14, .pointer (some ⟨B, o1 + i * 3, none⟩)), (15, .pointer (some ⟨B, o1 + i * 3, none⟩)), (16, .int .u64 ((wl[i]!).1)), (17, .int .u64 ky), (18, .bool true)], []⟩, [], [Value.bool ((((wl[i]!).1) : Int) == ky) = .bool true], by kernel_rfl, (.cons (cbE hk) .nil), ?_⟩
      rw [hres]
      refine rt (.bool true) [] [] (fun W hW => ?_)
      exact ⟨rfl, (hW.old 0 rfl)⟩
    · skip
      refine ck 4 [] [(0, .bool false), (2, .int .i64 ((i + 1 : Nat) : Int))] fun γ7 => ⟨⟨ktp (ue_2I Aw kw wl ky w (z2, i)) (kt (bdy Try.f10) [1, 0, 1, 0] []), (ue_b14 Aw kw wl ky z2 i B o1), []⟩, [], [Value.bool ((((wl[i]!).1) : Int) == ky) = .bool false, Value.int .i64 (IntKind.wrap .i64 ((i : Int) + 1)) = .int .i64 ((i + 1 : Nat) : Int)], by kernel_rfl, (.cons (cbN hk) (.cons (congrArg (Value.int .i64) (by rw [IntKind.wrap_i64]; omega)) .nil)), ?_⟩
      exact nx (st := ue_2s Aw kw wl ky) (F' := ue_2F Aw kw wl ky w) (ok := ue_2k Aw kw wl ky) (μ := ue_2m Aw kw wl ky) (x := (z2, i)) (fun mm => ((ue_b14 Aw kw wl ky z2 i B o1)).getD mm zz, (i + 1)) (show (∀ m, m < (i + 1) → (wl[m]!).1 ≠ ky) ∧ (i + 1) ≤ wl.length from ⟨fun m hm => by
                by_cases hmi : m < i
                · exact hall m hmi
                · obtain rfl : m = i := by omega
                  exact hk, by omega⟩) (by show _ < _; simp only [ue_2m]; omega) 0 0 rfl
  · skip
    have hres := und_no (fun m hm => hall m (by omega))
    refine ck 5 [] [(3, .bool false)] fun γ8 => ⟨⟨kt (bdy Try.f10) [1, 1, 1] [], upv (ue_b5 Aw kw wl ky z2 i) [(4, .bool false), (6, .int .i64 (i : Int)), (7, .slice Aw wl.length kw), (8, .int .i64 ((wl.length : Nat) : Int)), (9, .bool false)], []⟩, [], [Value.bool (decide (((i : Int) : Int) < ((wl.length : Nat) : Int))) = .bool false], by kernel_rfl, (.cons (cbF (by omega)) .nil), ?_⟩
    rw [hres]
    refine rt (.bool false) [] [] (fun W hW => ?_)
    exact ⟨rfl, (hW.old 0 rfl)⟩
theorem place_v {w : World} {Aw : Option Addr} {kw : Nat} {wl : List RW} {ky v : Int} {sx : ByteArray} {fl : Bool} (hv : plc wl ky sx = v) (hwl : wl.length ≤ 1000) (h : Rd w (.slice Aw wl.length kw) 3 encT29 wl) : Calls Try.prog 7 #[.slice Aw wl.length kw, .agg #[.int .u64 ky, .string sx, .bool fl]] w fun e w' => e = .returned (.int .i64 v) ∧ Below w.heap.size w w' := by
  subst hv
  exact place_is hwl h
theorem under_v {w : World} {Aw : Option Addr} {kw : Nat} {wl : List RW} {ky : Int} {v : Bool} (hv : undB wl ky = v) (hwl : wl.length ≤ 1000) (h : Rd w (.slice Aw wl.length kw) 3 encT29 wl) : Calls Try.prog 10 #[.slice Aw wl.length kw, .int .u64 ky] w fun e w' => e = .returned (.bool v) ∧ Below w.heap.size w w' := by
  subst hv
  exact under_is hwl h
end Go.Proofs.Ytkkbhllljafdfaa.Sr
