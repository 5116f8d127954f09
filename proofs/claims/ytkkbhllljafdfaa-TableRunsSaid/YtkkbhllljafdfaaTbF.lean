/- Get, Len, Clashes. No condition beside those that each theorem names. -/
import Derived.Test.YtkkbhllljafdfaaTbD
namespace Go.Proofs.Ytkkbhllljafdfaa.Sr
open Go.RowKit Go.Proofs.YtkkbhllljafdfaaM.Mach
set_option linter.unusedVariables false
set_option linter.unusedSimpArgs false
def ga_c0 (gm : Nat) (Ar : Option Addr) (cr : Nat) (rs : List R2) (cn : Nat) : List Value := [.map (some gm), .slice Ar rs.length cr, .int .i64 (cn : Int)]
def ga_l1 (g : Nat) (x9 : Int) : List Value := [.pointer (some ⟨g, 0, none⟩), .int .i64 x9, zz, zz, .int .u64 0, .string ⟨#[]⟩, .bool false, .pointer (some ⟨g, 0, none⟩), zz, zz, zz, zz, zz, zz, zz, zz]
def ga_l2 : List Value := [zz, zz, zz, zz, zz, zz, zz, zz, zz, zz, zz, zz, zz, zz, zz, zz]
def ga_l3 : List Value := [zz, zz, zz, zz, zz, zz]
def ga_b4 (g : Nat) (x9 : Int) : List Value := (ga_l1 g x9) ++ (ga_l2 ++ (ga_l3))
def ga_l5 (g : Nat) (gm : Nat) : List Value := [.pointer (some ⟨g, 0, none⟩), zz, .bool false, .pointer (some ⟨g, 0, none⟩), .bool false, .bool false, .pointer (some ⟨g, 0, none⟩), .pointer (some ⟨g, 0, none⟩), .pointer (some ⟨g, 0, none⟩), .pointer (some ⟨g, 0, none⟩), .map (some gm), .bool false, .bool false]
def ga_l6 (g : Nat) (x9 : Int) : List Value := [.pointer (some ⟨g, 0, none⟩), .int .i64 x9, zz, zz, .int .u64 0, .string ⟨#[]⟩, .bool false, .pointer (some ⟨g, 0, none⟩), .bool false, .bool false, .int .i64 x9, .bool true, .bool true, .bool true, zz, zz]
def ga_l7 : List Value := [zz, zz, zz, zz, zz, .bool true, zz, zz, zz, zz, zz, zz, zz, zz, zz, zz]
def ga_b8 (g : Nat) (x9 : Int) : List Value := (ga_l6 g x9) ++ (ga_l7 ++ (ga_l3))
set_option maxHeartbeats 8000000 in
set_option maxRecDepth 100000 in
theorem get_lo {w : World} {g : Nat} {gm : Nat} {clk : Nat} {Ar : Option Addr} {cr : Nat} {rs : List R2} {cn : Nat} {en : List EN} {x9 : Int} (h : x9 < 0) (hown : HoldR w [blkA (g, 41, (ga_c0 gm Ar cr rs cn)), rowA 47 2 (.slice Ar rs.length cr) rs.length (rs.flatMap encT47), mapA gm (en.map entM) clk, bun (en.map rowE)]) : Calls Try.prog 14 #[.pointer (some ⟨g, 0, none⟩), .int .i64 x9] w fun e W => ∃ x : Unit, e = .returned (.tuple #[.int .u64 0, .string ⟨#[]⟩, .bool false]) ∧ HoldR W ([blkA (g, 41, (ga_c0 gm Ar cr rs cn)), rowA 47 2 (.slice Ar rs.length cr) rs.length (rs.flatMap encT47), mapA gm (en.map entM) clk, bun (en.map rowE)] ++ [oldF w [blkA (g, 41, (ga_c0 gm Ar cr rs cn)), rowA 47 2 (.slice Ar rs.length cr) rs.length (rs.flatMap encT47), mapA gm (en.map entM) clk, bun (en.map rowE)]]) := by
  refine enterF (args := [.pointer (some ⟨g, 0, none⟩), .int .i64 x9]) (fn := Try.f14) (L := [(g, 41, (ga_c0 gm Ar cr rs cn))]) (F0 := [rowA 47 2 (.slice Ar rs.length cr) rs.length (rs.flatMap encT47), mapA gm (en.map entM) clk, bun (en.map rowE)]) rfl (c := bdy Try.f14) (by kernel_rfl) hown ?_
  refine ck 4 [] [] fun γ1 => ⟨⟨kt (bdy Try.f14) [1, 0, 0, 1] [], (ga_b4 g x9), [(g, 41, (ga_c0 gm Ar cr rs cn))]⟩, [], [], by kernel_rfl, .nil, ?_⟩
  refine ci (f := 15) (args := [.pointer (some ⟨g, 0, none⟩)]) (fn := Try.f15) (c := bdy Try.f15) rfl (fun R2 hR2 => ?_)
  refine ck 12 [(1, 0)] [] fun γ3 => ⟨⟨kt (bdy Try.f15) [1, 1] [], (ga_l5 g gm), [(g, 41, (ga_c0 gm Ar cr rs cn))]⟩, [(1, g)], [], by kernel_rfl, .nil, ?_⟩
  refine crm hR2 (.bool false) [] [] [true] ?_
  refine ck 16 [] [(2, .bool true)] fun γ4 => ⟨⟨kt (bdy Try.f14) [1, 0, 1, 0, 1] [], (ga_b8 g x9), [(g, 41, (ga_c0 gm Ar cr rs cn))]⟩, [], [Value.bool (decide ((x9 : Int) < 0)) = .bool true], by kernel_rfl, (.cons (cbT (by omega)) .nil), ?_⟩
  refine rtL (.tuple #[.int .u64 0, .string ⟨#[]⟩, .bool false]) [] [] ([(g, 41, (ga_c0 gm Ar cr rs cn))]) (fun W hW => ?_)
  exact ⟨(), rfl, hW.ix [0, 1, 2, 3, 4] (by decide) rfl⟩
def gb_c0 (gm : Nat) (Ar : Option Addr) (cr : Nat) (rs : List R2) (cn : Nat) : List Value := [.map (some gm), .slice Ar rs.length cr, .int .i64 (cn : Int)]
def gb_l1 (g : Nat) (rs : List R2) : List Value := [.pointer (some ⟨g, 0, none⟩), .int .i64 ((rs.length : Nat) : Int), zz, zz, .int .u64 0, .string ⟨#[]⟩, .bool false, .pointer (some ⟨g, 0, none⟩), zz, zz, zz, zz, zz, zz, zz, zz]
def gb_l2 : List Value := [zz, zz, zz, zz, zz, zz, zz, zz, zz, zz, zz, zz, zz, zz, zz, zz]
def gb_l3 : List Value := [zz, zz, zz, zz, zz, zz]
def gb_b4 (g : Nat) (rs : List R2) : List Value := (gb_l1 g rs) ++ (gb_l2 ++ (gb_l3))
def gb_l5 (g : Nat) (gm : Nat) : List Value := [.pointer (some ⟨g, 0, none⟩), zz, .bool false, .pointer (some ⟨g, 0, none⟩), .bool false, .bool false, .pointer (some ⟨g, 0, none⟩), .pointer (some ⟨g, 0, none⟩), .pointer (some ⟨g, 0, none⟩), .pointer (some ⟨g, 0, none⟩), .map (some gm), .bool false, .bool false]
def gb_l6 (g : Nat) (rs : List R2) : List Value := [.pointer (some ⟨g, 0, none⟩), .int .i64 ((rs.length : Nat) : Int), zz, zz, .int .u64 0, .string ⟨#[]⟩, .bool false, .pointer (some ⟨g, 0, none⟩), .bool false, .bool false, .int .i64 ((rs.length : Nat) : Int), .bool false, .bool false, .bool false, .int .i64 ((rs.length : Nat) : Int), .pointer (some ⟨g, 0, none⟩)]
def gb_l7 (g : Nat) (Ar : Option Addr) (cr : Nat) (rs : List R2) : List Value := [.pointer (some ⟨g, 0, none⟩), .pointer (some ⟨g, 1, none⟩), .slice Ar rs.length cr, .int .i64 ((rs.length : Nat) : Int), .bool true, .bool true, zz, zz, zz, zz, zz, zz, zz, zz, zz, zz]
def gb_b8 (g : Nat) (Ar : Option Addr) (cr : Nat) (rs : List R2) : List Value := (gb_l6 g rs) ++ ((gb_l7 g Ar cr rs) ++ (gb_l3))
set_option maxHeartbeats 8000000 in
set_option maxRecDepth 100000 in
theorem get_hi {w : World} {g : Nat} {gm : Nat} {clk : Nat} {Ar : Option Addr} {cr : Nat} {rs : List R2} {cn : Nat} {en : List EN}  (hown : HoldR w [blkA (g, 41, (gb_c0 gm Ar cr rs cn)), rowA 47 2 (.slice Ar rs.length cr) rs.length (rs.flatMap encT47), mapA gm (en.map entM) clk, bun (en.map rowE)]) : Calls Try.prog 14 #[.pointer (some ⟨g, 0, none⟩), .int .i64 ((rs.length : Nat) : Int)] w fun e W => ∃ x : Unit, e = .returned (.tuple #[.int .u64 0, .string ⟨#[]⟩, .bool false]) ∧ HoldR W ([blkA (g, 41, (gb_c0 gm Ar cr rs cn)), rowA 47 2 (.slice Ar rs.length cr) rs.length (rs.flatMap encT47), mapA gm (en.map entM) clk, bun (en.map rowE)] ++ [oldF w [blkA (g, 41, (gb_c0 gm Ar cr rs cn)), rowA 47 2 (.slice Ar rs.length cr) rs.length (rs.flatMap encT47), mapA gm (en.map entM) clk, bun (en.map rowE)]]) := by
  refine enterF (args := [.pointer (some ⟨g, 0, none⟩), .int .i64 ((rs.length : Nat) : Int)]) (fn := Try.f14) (L := [(g, 41, (gb_c0 gm Ar cr rs cn))]) (F0 := [rowA 47 2 (.slice Ar rs.length cr) rs.length (rs.flatMap encT47), mapA gm (en.map entM) clk, bun (en.map rowE)]) rfl (c := bdy Try.f14) (by kernel_rfl) hown ?_
  refine ck 4 [] [] fun γ1 => ⟨⟨kt (bdy Try.f14) [1, 0, 0, 1] [], (gb_b4 g rs), [(g, 41, (gb_c0 gm Ar cr rs cn))]⟩, [], [], by kernel_rfl, .nil, ?_⟩
  refine ci (f := 15) (args := [.pointer (some ⟨g, 0, none⟩)]) (fn := Try.f15) (c := bdy Try.f15) rfl (fun R2 hR2 => ?_)
  refine ck 12 [(1, 0)] [] fun γ3 => ⟨⟨kt (bdy Try.f15) [1, 1] [], (gb_l5 g gm), [(g, 41, (gb_c0 gm Ar cr rs cn))]⟩, [(1, g)], [], by kernel_rfl, .nil, ?_⟩
  refine crm hR2 (.bool false) [] [] [true] ?_
  refine ck 16 [(1, 0)] [(2, .bool false), (11, .bool true)] fun γ4 => ⟨⟨kt (bdy Try.f14) [1, 0, 1, 0, 1] [], (gb_b8 g Ar cr rs), [(g, 41, (gb_c0 gm Ar cr rs cn))]⟩, [(1, g)], [Value.bool (decide ((((rs.length : Nat) : Int) : Int) < 0)) = .bool false, Value.bool (decide ((((rs.length : Nat) : Int) : Int) ≥ ((rs.length : Nat) : Int))) = .bool true], by kernel_rfl, (.cons (cbF (by omega)) (.cons (cbT (by omega)) .nil)), ?_⟩
  refine rtL (.tuple #[.int .u64 0, .string ⟨#[]⟩, .bool false]) [] [] ([(g, 41, (gb_c0 gm Ar cr rs cn))]) (fun W hW => ?_)
  exact ⟨(), rfl, hW.ix [0, 1, 2, 3, 4] (by decide) rfl⟩
def gc_c0 (gm : Nat) (Ar : Option Addr) (cr : Nat) (rs : List R2) (cn : Nat) : List Value := [.map (some gm), .slice Ar rs.length cr, .int .i64 (cn : Int)]
def gc_l1 (g : Nat) (n9 : Nat) : List Value := [.pointer (some ⟨g, 0, none⟩), .int .i64 ((n9 : Nat) : Int), zz, zz, .int .u64 0, .string ⟨#[]⟩, .bool false, .pointer (some ⟨g, 0, none⟩), zz, zz, zz, zz, zz, zz, zz, zz]
def gc_l2 : List Value := [zz, zz, zz, zz, zz, zz, zz, zz, zz, zz, zz, zz, zz, zz, zz, zz]
def gc_l3 : List Value := [zz, zz, zz, zz, zz, zz]
def gc_b4 (g : Nat) (n9 : Nat) : List Value := (gc_l1 g n9) ++ (gc_l2 ++ (gc_l3))
def gc_l5 (g : Nat) (gm : Nat) : List Value := [.pointer (some ⟨g, 0, none⟩), zz, .bool false, .pointer (some ⟨g, 0, none⟩), .bool false, .bool false, .pointer (some ⟨g, 0, none⟩), .pointer (some ⟨g, 0, none⟩), .pointer (some ⟨g, 0, none⟩), .pointer (some ⟨g, 0, none⟩), .map (some gm), .bool false, .bool false]
def gc_l6 (g : Nat) (n9 : Nat) : List Value := [.pointer (some ⟨g, 0, none⟩), .int .i64 ((n9 : Nat) : Int), zz, zz, .int .u64 0, .string ⟨#[]⟩, .bool false, .pointer (some ⟨g, 0, none⟩), .bool false, .bool false, .int .i64 ((n9 : Nat) : Int), .bool false, .bool false, .bool false, .int .i64 ((n9 : Nat) : Int), .pointer (some ⟨g, 0, none⟩)]
def gc_l7 (g : Nat) (Ar : Option Addr) (cr : Nat) (rs : List R2) : List Value := [.pointer (some ⟨g, 0, none⟩), .pointer (some ⟨g, 1, none⟩), .slice Ar rs.length cr, .int .i64 ((rs.length : Nat) : Int), .bool false, .bool false, zz, zz, zz, zz, zz, zz, zz, zz, zz, zz]
def gc_b8 (g : Nat) (Ar : Option Addr) (cr : Nat) (rs : List R2) (n9 : Nat) : List Value := (gc_l6 g n9) ++ ((gc_l7 g Ar cr rs) ++ (gc_l3))
def gc_l9 (g : Nat) (rs : List R2) (n9 : Nat) : List Value := [.pointer (some ⟨g, 0, none⟩), .int .i64 ((n9 : Nat) : Int), zz, zz, .int .u64 ((rs[n9]!).1), .string ((rs[n9]!).2), .bool true, .pointer (some ⟨g, 0, none⟩), .bool false, .bool false, .int .i64 ((n9 : Nat) : Int), .bool false, .bool false, .bool false, .int .i64 ((n9 : Nat) : Int), .pointer (some ⟨g, 0, none⟩)]
def gc_l10 (g : Nat) (Ar : Option Addr) (cr : Nat) (rs : List R2) (n9 : Nat) (B1 : Nat) (o2 : Nat) : List Value := [.pointer (some ⟨g, 0, none⟩), .pointer (some ⟨g, 1, none⟩), .slice Ar rs.length cr, .int .i64 ((rs.length : Nat) : Int), .bool false, .bool false, .pointer (some ⟨g, 0, none⟩), .pointer (some ⟨g, 0, none⟩), .pointer (some ⟨g, 1, none⟩), .slice Ar rs.length cr, .int .i64 ((n9 : Nat) : Int), .pointer (some ⟨B1, o2 + n9 * 2, none⟩), .pointer (some ⟨B1, o2 + n9 * 2, none⟩), .int .u64 ((rs[n9]!).1), .pointer (some ⟨g, 0, none⟩), .pointer (some ⟨g, 0, none⟩)]
def gc_l11 (g : Nat) (Ar : Option Addr) (cr : Nat) (rs : List R2) (n9 : Nat) (B1 : Nat) (o2 : Nat) : List Value := [.pointer (some ⟨g, 1, none⟩), .slice Ar rs.length cr, .int .i64 ((n9 : Nat) : Int), .pointer (some ⟨B1, o2 + n9 * 2, none⟩), .pointer (some ⟨B1, o2 + n9 * 2 + 1, none⟩), .string ((rs[n9]!).2)]
def gc_b12 (g : Nat) (Ar : Option Addr) (cr : Nat) (rs : List R2) (n9 : Nat) (B1 : Nat) (o2 : Nat) : List Value := (gc_l9 g rs n9) ++ ((gc_l10 g Ar cr rs n9 B1 o2) ++ ((gc_l11 g Ar cr rs n9 B1 o2)))
set_option maxHeartbeats 8000000 in
set_option maxRecDepth 100000 in
theorem get_at {w : World} {g : Nat} {gm : Nat} {clk : Nat} {Ar : Option Addr} {cr : Nat} {rs : List R2} {cn : Nat} {en : List EN} {n9 : Nat} (hn : n9 < rs.length) (hrs : rs.length ≤ 1000) (hown : HoldR w [blkA (g, 41, (gc_c0 gm Ar cr rs cn)), rowA 47 2 (.slice Ar rs.length cr) rs.length (rs.flatMap encT47), mapA gm (en.map entM) clk, bun (en.map rowE)]) : Calls Try.prog 14 #[.pointer (some ⟨g, 0, none⟩), .int .i64 ((n9 : Nat) : Int)] w fun e W => ∃ x : Unit, e = .returned (.tuple #[.int .u64 ((rs[n9]!).1), .string ((rs[n9]!).2), .bool true]) ∧ HoldR W ([blkA (g, 41, (gc_c0 gm Ar cr rs cn)), rowA 47 2 (.slice Ar rs.length cr) rs.length (rs.flatMap encT47), mapA gm (en.map entM) clk, bun (en.map rowE)] ++ [oldF w [blkA (g, 41, (gc_c0 gm Ar cr rs cn)), rowA 47 2 (.slice Ar rs.length cr) rs.length (rs.flatMap encT47), mapA gm (en.map entM) clk, bun (en.map rowE)]]) := by
  refine enterF (args := [.pointer (some ⟨g, 0, none⟩), .int .i64 ((n9 : Nat) : Int)]) (fn := Try.f14) (L := [(g, 41, (gc_c0 gm Ar cr rs cn))]) (F0 := [rowA 47 2 (.slice Ar rs.length cr) rs.length (rs.flatMap encT47), mapA gm (en.map entM) clk, bun (en.map rowE)]) rfl (c := bdy Try.f14) (by kernel_rfl) hown ?_
  refine atR (fun W hW => (own_rd encT47_len (hW.at 0 rfl))) (show 0 < rs.length by omega) (fun B1 o2 hB1 => ?_)
  refine ck 4 [] [] fun γ3 => ⟨⟨kt (bdy Try.f14) [1, 0, 0, 1] [], (gc_b4 g n9), [(g, 41, (gc_c0 gm Ar cr rs cn))]⟩, [], [], by kernel_rfl, .nil, ?_⟩
  refine ci (f := 15) (args := [.pointer (some ⟨g, 0, none⟩)]) (fn := Try.f15) (c := bdy Try.f15) rfl (fun R4 hR4 => ?_)
  refine ck 12 [(1, 0)] [] fun γ5 => ⟨⟨kt (bdy Try.f15) [1, 1] [], (gc_l5 g gm), [(g, 41, (gc_c0 gm Ar cr rs cn))]⟩, [(1, g)], [], by kernel_rfl, .nil, ?_⟩
  refine crm hR4 (.bool false) [] [] [true] ?_
  refine ck 13 [(1, 0)] [(2, .bool false), (11, .bool false)] fun γ6 => ⟨⟨kt (bdy Try.f14) [1, 1, 0] [], (gc_b8 g Ar cr rs n9), [(g, 41, (gc_c0 gm Ar cr rs cn))]⟩, [(1, g)], [Value.bool (decide ((((n9 : Nat) : Int) : Int) < 0)) = .bool false, Value.bool (decide ((((n9 : Nat) : Int) : Int) ≥ ((rs.length : Nat) : Int))) = .bool false], by kernel_rfl, (.cons (cbF (by omega)) (.cons (cbF (by omega)) .nil)), ?_⟩
  refine dr [] [] .nil ?_
  refine df [0, 1, 2, 3, 4, 8, 9, 10, 11, 12] [(2, 0)] [] [(2, g)] [] .nil ?_
  refine dixr 5 (n := rs.length) (sz := 2) (j := ((n9 : Nat) : Int)) hB1 n9 (by omega) ?_
  refine df [6] [] [] [] [] .nil ?_
  refine dldr 7 (n := 1) (row := false) [.int .u64 ((rs[n9]!).1)] (fun W hW => ((Rd.atE (own_rd encT47_len (hW.at 0 rfl)) hB1 (by omega))).ld (i := n9) (by omega) 0 [.int .u64 ((rs[n9]!).1)] rfl) ?_
  refine df [16] [] [] [] [] .nil ?_
  refine dixr 13 (n := rs.length) (sz := 2) (j := ((n9 : Nat) : Int)) hB1 n9 (by omega) ?_
  refine df [14] [] [] [] [] .nil ?_
  refine dldr 15 (n := 1) (row := false) [.string ((rs[n9]!).2)] (fun W hW => ((Rd.atE (own_rd encT47_len (hW.at 0 rfl)) hB1 (by omega))).ld (i := n9) (by omega) 1 [.string ((rs[n9]!).2)] rfl) ?_
  refine df [17, 18] [] [] [] [] .nil ?_
  refine de (fs := (kt (bdy Try.f14) [1, 1, 0] []).tail) ?_
  refine st0 (fs := (kt (bdy Try.f14) [1, 1, 0] []).tail) ((gc_b12 g Ar cr rs n9 B1 o2)) [(g, 41, (gc_c0 gm Ar cr rs cn))] ?_
  refine rtL (.tuple #[.int .u64 ((rs[n9]!).1), .string ((rs[n9]!).2), .bool true]) [] [] ([(g, 41, (gc_c0 gm Ar cr rs cn))]) (fun W hW => ?_)
  exact ⟨(), rfl, hW.ix [0, 1, 2, 3, 4] (by decide) rfl⟩
def ln_c0 (gm : Nat) (Ar : Option Addr) (cr : Nat) (rs : List R2) (cn : Nat) : List Value := [.map (some gm), .slice Ar rs.length cr, .int .i64 (cn : Int)]
def ln_l1 (g : Nat) : List Value := [.pointer (some ⟨g, 0, none⟩), zz, .int .i64 0, .pointer (some ⟨g, 0, none⟩), zz, zz, zz, zz, zz, zz]
def ln_l2 (g : Nat) (gm : Nat) : List Value := [.pointer (some ⟨g, 0, none⟩), zz, .bool false, .pointer (some ⟨g, 0, none⟩), .bool false, .bool false, .pointer (some ⟨g, 0, none⟩), .pointer (some ⟨g, 0, none⟩), .pointer (some ⟨g, 0, none⟩), .pointer (some ⟨g, 0, none⟩), .map (some gm), .bool false, .bool false]
def ln_l3 (g : Nat) (Ar : Option Addr) (cr : Nat) (rs : List R2) : List Value := [.pointer (some ⟨g, 0, none⟩), zz, .int .i64 ((rs.length : Nat) : Int), .pointer (some ⟨g, 0, none⟩), .bool false, .pointer (some ⟨g, 0, none⟩), .pointer (some ⟨g, 0, none⟩), .pointer (some ⟨g, 1, none⟩), .slice Ar rs.length cr, .int .i64 ((rs.length : Nat) : Int)]
set_option maxHeartbeats 8000000 in
set_option maxRecDepth 100000 in
theorem len_is {w : World} {g : Nat} {gm : Nat} {clk : Nat} {Ar : Option Addr} {cr : Nat} {rs : List R2} {cn : Nat} {en : List EN}  (hown : HoldR w [blkA (g, 41, (ln_c0 gm Ar cr rs cn)), rowA 47 2 (.slice Ar rs.length cr) rs.length (rs.flatMap encT47), mapA gm (en.map entM) clk, bun (en.map rowE)]) : Calls Try.prog 11 #[.pointer (some ⟨g, 0, none⟩)] w fun e W => ∃ x : Unit, e = .returned (.int .i64 ((rs.length : Nat) : Int)) ∧ HoldR W ([blkA (g, 41, (ln_c0 gm Ar cr rs cn)), rowA 47 2 (.slice Ar rs.length cr) rs.length (rs.flatMap encT47), mapA gm (en.map entM) clk, bun (en.map rowE)] ++ [oldF w [blkA (g, 41, (ln_c0 gm Ar cr rs cn)), rowA 47 2 (.slice Ar rs.length cr) rs.length (rs.flatMap encT47), mapA gm (en.map entM) clk, bun (en.map rowE)]]) := by
  refine enterF (args := [.pointer (some ⟨g, 0, none⟩)]) (fn := Try.f11) (L := [(g, 41, (ln_c0 gm Ar cr rs cn))]) (F0 := [rowA 47 2 (.slice Ar rs.length cr) rs.length (rs.flatMap encT47), mapA gm (en.map entM) clk, bun (en.map rowE)]) rfl (c := bdy Try.f11) (by kernel_rfl) hown ?_
  refine ck 2 [] [] fun γ1 => ⟨⟨kt (bdy Try.f11) [1, 0, 0, 1] [], (ln_l1 g), [(g, 41, (ln_c0 gm Ar cr rs cn))]⟩, [], [], by kernel_rfl, .nil, ?_⟩
  refine ci (f := 15) (args := [.pointer (some ⟨g, 0, none⟩)]) (fn := Try.f15) (c := bdy Try.f15) rfl (fun R2 hR2 => ?_)
  refine ck 12 [(1, 0)] [] fun γ3 => ⟨⟨kt (bdy Try.f15) [1, 1] [], (ln_l2 g gm), [(g, 41, (ln_c0 gm Ar cr rs cn))]⟩, [(1, g)], [], by kernel_rfl, .nil, ?_⟩
  refine crm hR2 (.bool false) [] [] [true] ?_
  refine ck 6 [(1, 0)] [] fun γ4 => ⟨⟨kt (bdy Try.f11) [1, 1, 1] [], (ln_l3 g Ar cr rs), [(g, 41, (ln_c0 gm Ar cr rs cn))]⟩, [(1, g)], [], by kernel_rfl, .nil, ?_⟩
  refine rtL (.int .i64 ((rs.length : Nat) : Int)) [] [] ([(g, 41, (ln_c0 gm Ar cr rs cn))]) (fun W hW => ?_)
  exact ⟨(), rfl, hW.ix [0, 1, 2, 3, 4] (by decide) rfl⟩
def cl_c0 (gm : Nat) (Ar : Option Addr) (cr : Nat) (rs : List R2) (cn : Nat) : List Value := [.map (some gm), .slice Ar rs.length cr, .int .i64 (cn : Int)]
def cl_l1 (g : Nat) : List Value := [.pointer (some ⟨g, 0, none⟩), zz, .int .i64 0, .pointer (some ⟨g, 0, none⟩), zz, zz, zz, zz, zz]
def cl_l2 (g : Nat) (gm : Nat) : List Value := [.pointer (some ⟨g, 0, none⟩), zz, .bool false, .pointer (some ⟨g, 0, none⟩), .bool false, .bool false, .pointer (some ⟨g, 0, none⟩), .pointer (some ⟨g, 0, none⟩), .pointer (some ⟨g, 0, none⟩), .pointer (some ⟨g, 0, none⟩), .map (some gm), .bool false, .bool false]
def cl_l3 (g : Nat) (cn : Nat) : List Value := [.pointer (some ⟨g, 0, none⟩), zz, .int .i64 (cn : Int), .pointer (some ⟨g, 0, none⟩), .bool false, .pointer (some ⟨g, 0, none⟩), .pointer (some ⟨g, 0, none⟩), .pointer (some ⟨g, 2, none⟩), .int .i64 (cn : Int)]
set_option maxHeartbeats 8000000 in
set_option maxRecDepth 100000 in
theorem cla_is {w : World} {g : Nat} {gm : Nat} {clk : Nat} {Ar : Option Addr} {cr : Nat} {rs : List R2} {cn : Nat} {en : List EN}  (hown : HoldR w [blkA (g, 41, (cl_c0 gm Ar cr rs cn)), rowA 47 2 (.slice Ar rs.length cr) rs.length (rs.flatMap encT47), mapA gm (en.map entM) clk, bun (en.map rowE)]) : Calls Try.prog 12 #[.pointer (some ⟨g, 0, none⟩)] w fun e W => ∃ x : Unit, e = .returned (.int .i64 (cn : Int)) ∧ HoldR W ([blkA (g, 41, (cl_c0 gm Ar cr rs cn)), rowA 47 2 (.slice Ar rs.length cr) rs.length (rs.flatMap encT47), mapA gm (en.map entM) clk, bun (en.map rowE)] ++ [oldF w [blkA (g, 41, (cl_c0 gm Ar cr rs cn)), rowA 47 2 (.slice Ar rs.length cr) rs.length (rs.flatMap encT47), mapA gm (en.map entM) clk, bun (en.map rowE)]]) := by
  refine enterF (args := [.pointer (some ⟨g, 0, none⟩)]) (fn := Try.f12) (L := [(g, 41, (cl_c0 gm Ar cr rs cn))]) (F0 := [rowA 47 2 (.slice Ar rs.length cr) rs.length (rs.flatMap encT47), mapA gm (en.map entM) clk, bun (en.map rowE)]) rfl (c := bdy Try.f12) (by kernel_rfl) hown ?_
  refine ck 2 [] [] fun γ1 => ⟨⟨kt (bdy Try.f12) [1, 0, 0, 1] [], (cl_l1 g), [(g, 41, (cl_c0 gm Ar cr rs cn))]⟩, [], [], by kernel_rfl, .nil, ?_⟩
  refine ci (f := 15) (args := [.pointer (some ⟨g, 0, none⟩)]) (fn := Try.f15) (c := bdy Try.f15) rfl (fun R2 hR2 => ?_)
  refine ck 12 [(1, 0)] [] fun γ3 => ⟨⟨kt (bdy Try.f15) [1, 1] [], (cl_l2 g gm), [(g, 41, (cl_c0 gm Ar cr rs cn))]⟩, [(1, g)], [], by kernel_rfl, .nil, ?_⟩
  refine crm hR2 (.bool false) [] [] [true] ?_
  refine ck 5 [(1, 0)] [] fun γ4 => ⟨⟨kt (bdy Try.f12) [1, 1, 1] [], (cl_l3 g cn), [(g, 41, (cl_c0 gm Ar cr rs cn))]⟩, [(1, g)], [], by kernel_rfl, .nil, ?_⟩
  refine rtL (.int .i64 (cn : Int)) [] [] ([(g, 41, (cl_c0 gm Ar cr rs cn))]) (fun W hW => ?_)
  exact ⟨(), rfl, hW.ix [0, 1, 2, 3, 4] (by decide) rfl⟩
end Go.Proofs.Ytkkbhllljafdfaa.Sr
