/- What Copy, Few and the comparing of two threads answer. No condition beside those that each theorem names. -/
import Derived.Test.YthcmcekjgecnhaaTlA
namespace Go.Proofs.Ythcmcekjgecnhaa.Th
open Go.RowKit Go.Proofs.YthcmcekjgecnhaaW.PrintWords Go.Proofs.YthcmcekjgecnhaaW.PrintLast
open Go.Proofs.YthcmcekjgecnhaaW.HWords Go.Proofs.Ythcmcekjgecnhaa.QThreadLocals
set_option linter.unusedVariables false
set_option linter.unusedSimpArgs false
def tp_c0 (t : Th) : Array Value := #[.int .i64 t.pc, .int .i64 t.fu, .int .i64 t.st, .int .i64 (t.R 0), .int .i64 (t.R 1), .int .i64 (t.R 2), .int .i64 (t.R 3), .int .i64 (t.R 4), .int .i64 (t.R 5), .int .i64 (t.R 6), .int .i64 (t.R 7), .int .i64 (t.R 8), .int .i64 (t.R 9), .int .i64 (t.R 10), .int .i64 (t.R 11), .int .i64 t.kd, .int .i64 t.mi, .int .i64 t.mn, t.sv, t.bv, t.nv, .int .i64 t.old]
def tp_l1 (t : Th) (g1 : Nat) : List Value := [.agg (tp_c0 t), .pointer (some ⟨g1, 0, none⟩), zz, zz, zz, zz, zz, zz, zz, zz, zz, zz, zz, zz, zz, zz]
def tp_l2 : List Value := [zz, zz, zz, zz, zz, zz, zz, zz, zz, zz, zz]
def tp_b3 (t : Th) (g1 : Nat) : List Value := (tp_l1 t g1) ++ (tp_l2)
def tp_c1 : Array Value := #[.int .i64 0, .int .i64 0, .int .i64 0, .int .i64 0, .int .i64 0, .int .i64 0, .int .i64 0, .int .i64 0, .int .i64 0, .int .i64 0, .int .i64 0, .int .i64 0, .int .i64 0, .int .i64 0, .int .i64 0, .int .i64 0, .int .i64 0, .int .i64 0, .slice none 0 0, .slice none 0 0, .slice none 0 0, .int .i64 0]
def tp_l5 (t : Th) (g1 : Nat) (g3 : Nat) : List Value := [.agg (tp_c0 t), .pointer (some ⟨g1, 0, none⟩), .pointer (some ⟨g3, 0, none⟩), .slice none 0 0, .slice none 0 0, .slice none 0 0, .slice none 0 0, .pointer (some ⟨g1, 15, none⟩), zz, zz, zz, zz, zz, zz, zz, zz]
def tp_b6 (t : Th) (g1 : Nat) (g3 : Nat) : List Value := (tp_l5 t g1 g3) ++ (tp_l2)
def tp_l7 (t : Th) (xs : List Int) (g1 : Nat) (g3 : Nat) (A5 : Option Addr) (c5 : Nat) : List Value := [.agg (tp_c0 t), .pointer (some ⟨g1, 0, none⟩), .pointer (some ⟨g3, 0, none⟩), .slice A5 xs.length c5, .slice none 0 0, .slice none 0 0, .slice none 0 0, .pointer (some ⟨g1, 15, none⟩), .pointer (some ⟨g1, 18, none⟩), t.sv, .slice A5 xs.length c5, .slice none 0 0, .pointer (some ⟨g1, 19, none⟩), zz, zz, zz]
def tp_b8 (t : Th) (xs : List Int) (g1 : Nat) (g3 : Nat) (A5 : Option Addr) (c5 : Nat) : List Value := (tp_l7 t xs g1 g3 A5 c5) ++ (tp_l2)
def tp_l9 (t : Th) (xs : List Int) (bs : List S42) (g1 : Nat) (g3 : Nat) (A5 : Option Addr) (c5 : Nat) (A6 : Option Addr) (c6 : Nat) : List Value := [.agg (tp_c0 t), .pointer (some ⟨g1, 0, none⟩), .pointer (some ⟨g3, 0, none⟩), .slice A5 xs.length c5, .slice A6 bs.length c6, .slice none 0 0, .slice none 0 0, .pointer (some ⟨g1, 15, none⟩), .pointer (some ⟨g1, 18, none⟩), t.sv, .slice A5 xs.length c5, .slice none 0 0, .pointer (some ⟨g1, 19, none⟩), t.bv, .slice A6 bs.length c6, .slice none 0 0]
def tp_l10 (t : Th) (g1 : Nat) : List Value := [.pointer (some ⟨g1, 20, none⟩), t.nv, zz, zz, zz, zz, zz, zz, zz, zz, zz]
def tp_b11 (t : Th) (xs : List Int) (bs : List S42) (g1 : Nat) (g3 : Nat) (A5 : Option Addr) (c5 : Nat) (A6 : Option Addr) (c6 : Nat) : List Value := (tp_l9 t xs bs g1 g3 A5 c5 A6 c6) ++ ((tp_l10 t g1))
def tp_c2 (t : Th) (xs : List Int) (A5 : Option Addr) (c5 : Nat) : Array Value := #[.int .i64 t.pc, .int .i64 t.fu, .int .i64 t.st, .int .i64 (t.R 0), .int .i64 (t.R 1), .int .i64 (t.R 2), .int .i64 (t.R 3), .int .i64 (t.R 4), .int .i64 (t.R 5), .int .i64 (t.R 6), .int .i64 (t.R 7), .int .i64 (t.R 8), .int .i64 (t.R 9), .int .i64 (t.R 10), .int .i64 (t.R 11), .int .i64 t.kd, .int .i64 t.mi, .int .i64 t.mn, .slice A5 xs.length c5, t.bv, t.nv, .int .i64 t.old]
def tp_l13 (t : Th) (xs : List Int) (bs : List S42) (ns : List Int) (g1 : Nat) (g3 : Nat) (A5 : Option Addr) (c5 : Nat) (A6 : Option Addr) (c6 : Nat) (A7 : Option Addr) (c7 : Nat) : List Value := [.agg (tp_c0 t), .pointer (some ⟨g1, 0, none⟩), .pointer (some ⟨g3, 0, none⟩), .slice A5 xs.length c5, .slice A6 bs.length c6, .slice A7 ns.length c7, .slice none 0 0, .pointer (some ⟨g1, 15, none⟩), .pointer (some ⟨g1, 18, none⟩), t.sv, .slice A5 xs.length c5, .slice none 0 0, .pointer (some ⟨g1, 19, none⟩), t.bv, .slice A6 bs.length c6, .slice none 0 0]
def tp_l14 (t : Th) (xs : List Int) (bs : List S42) (ns : List Int) (g1 : Nat) (A5 : Option Addr) (c5 : Nat) (A6 : Option Addr) (c6 : Nat) (A7 : Option Addr) (c7 : Nat) : List Value := [.pointer (some ⟨g1, 20, none⟩), t.nv, .slice A7 ns.length c7, .slice A5 xs.length c5, .pointer (some ⟨g1, 15, none⟩), .pointer (some ⟨g1, 18, none⟩), .slice A6 bs.length c6, zz, zz, zz, zz]
def tp_b15 (t : Th) (xs : List Int) (bs : List S42) (ns : List Int) (g1 : Nat) (g3 : Nat) (A5 : Option Addr) (c5 : Nat) (A6 : Option Addr) (c6 : Nat) (A7 : Option Addr) (c7 : Nat) : List Value := (tp_l13 t xs bs ns g1 g3 A5 c5 A6 c6 A7 c7) ++ ((tp_l14 t xs bs ns g1 A5 c5 A6 c6 A7 c7))
def tp_c3 (t : Th) (xs : List Int) (bs : List S42) (A5 : Option Addr) (c5 : Nat) (A6 : Option Addr) (c6 : Nat) : Array Value := #[.int .i64 t.pc, .int .i64 t.fu, .int .i64 t.st, .int .i64 (t.R 0), .int .i64 (t.R 1), .int .i64 (t.R 2), .int .i64 (t.R 3), .int .i64 (t.R 4), .int .i64 (t.R 5), .int .i64 (t.R 6), .int .i64 (t.R 7), .int .i64 (t.R 8), .int .i64 (t.R 9), .int .i64 (t.R 10), .int .i64 (t.R 11), .int .i64 t.kd, .int .i64 t.mi, .int .i64 t.mn, .slice A5 xs.length c5, .slice A6 bs.length c6, t.nv, .int .i64 t.old]
def tp_c4 (t : Th) (xs : List Int) (bs : List S42) (ns : List Int) (A5 : Option Addr) (c5 : Nat) (A6 : Option Addr) (c6 : Nat) (A7 : Option Addr) (c7 : Nat) : Array Value := #[.int .i64 t.pc, .int .i64 t.fu, .int .i64 t.st, .int .i64 (t.R 0), .int .i64 (t.R 1), .int .i64 (t.R 2), .int .i64 (t.R 3), .int .i64 (t.R 4), .int .i64 (t.R 5), .int .i64 (t.R 6), .int .i64 (t.R 7), .int .i64 (t.R 8), .int .i64 (t.R 9), .int .i64 (t.R 10), .int .i64 (t.R 11), .int .i64 t.kd, .int .i64 t.mi, .int .i64 t.mn, .slice A5 xs.length c5, .slice A6 bs.length c6, .slice A7 ns.length c7, .int .i64 t.old]
set_option maxHeartbeats 8000000 in
set_option maxRecDepth 100000 in
theorem th_Copy {w : World} {t : Th} {xs : List Int} {bs : List S42} {ns : List Int} (h : t.reads w xs bs ns) (hl : xs.length ≤ 1000 ∧ bs.length ≤ 1000 ∧ ns.length ≤ 1000) : Calls Try.prog 11 #[.agg t.cells] w fun e w' => ∃ As cs Ab cb An cn, e = .returned (.agg ((t).rows (.slice As xs.length cs) (.slice Ab bs.length cb) (.slice An ns.length cn)).cells) ∧ ((t).rows (.slice As xs.length cs) (.slice Ab bs.length cb) (.slice An ns.length cn)).owns w' w.heap.size xs bs ns ∧ Below w.heap.size w w' := by
  refine calls_of_wp Try.func11 rfl ?_
  have hW := Ws.nil w
  refine wp_seq ?_
  refine wp_region_list ?_
  obtain ⟨g1, W2, hr, hW, hbb, hge⟩ := hW.mk1 (P := Try.prog) (s := Instr.box 32 (.agg (tp_c0 t))) (tp_c0 t) 32 (by kernel_rfl)
  refine se (a' := (up (tp_b3 t g1) [])) (.pointer (some ⟨g1, 0, none⟩)) (Eq.trans (b := (do pure (Next.value (← Instr.box 32 (.agg (tp_c0 t)))) : Sem Next).run Try.prog w) (by kernel_rfl) (st_val hr)) ?_
  obtain ⟨g3, W4, hr, hW, hbb, hge⟩ := hW.mk1 (P := Try.prog) (s := Instr.alloc 32 true (.tuple #[])) tp_c1 32 (by kernel_rfl)
  refine se (a' := (up (tp_b3 t g1) [(2, .pointer (some ⟨g3, 0, none⟩))])) (.pointer (some ⟨g3, 0, none⟩)) (Eq.trans (b := (do pure (Next.value (← Instr.alloc 32 true (.tuple #[]))) : Sem Next).run Try.prog W2) (by kernel_rfl) (st_val hr)) ?_
  refine wpList_nil ?_
  refine wp_seq ?_
  refine wp_region_list ?_
  refine sk (a' := (up (tp_b3 t g1) [(2, .pointer (some ⟨g3, 0, none⟩)), (3, .slice none 0 0)])) (.slice none 0 0) ?_
  refine wpList_nil ?_
  refine wp_seq ?_
  refine wp_region_list ?_
  refine sk (a' := (up (tp_b3 t g1) [(2, .pointer (some ⟨g3, 0, none⟩)), (3, .slice none 0 0), (4, .slice none 0 0)])) (.slice none 0 0) ?_
  refine wpList_nil ?_
  refine wp_seq ?_
  refine wp_region_list ?_
  refine sk (a' := (up (tp_b3 t g1) [(2, .pointer (some ⟨g3, 0, none⟩)), (3, .slice none 0 0), (4, .slice none 0 0), (5, .slice none 0 0)])) (.slice none 0 0) ?_
  refine wpList_nil ?_
  refine wp_seq ?_
  refine wp_region_list ?_
  refine skp (.slice none 0 0) ?_
  refine skp (.pointer (some ⟨g1, 15, none⟩)) ?_
  refine sk (a' := (up (tp_b6 t g1 g3) [(8, .pointer (some ⟨g1, 18, none⟩))])) (.pointer (some ⟨g1, 18, none⟩)) ?_
  refine se (a' := (up (tp_b6 t g1 g3) [(8, .pointer (some ⟨g1, 18, none⟩)), (9, t.sv)])) (t.sv) (ev1 hW 1 18 Try.underlying27) ?_
  have hK5_g3 : g3 < W4.heap.size := blk_lt (hW.blk 0 _ _ _ rfl).1
  have hK5_g1 : g1 < W4.heap.size := blk_lt (hW.blk 1 _ _ _ rfl).1
  have hK5_le : w.heap.size ≤ W4.heap.size := hW.below.size
  obtain ⟨Ax5, cx5, ex5, hcx5, hCx5⟩ := h.s.below hW.below
  refine Kd.R_append_rows (Kd.int .i64) (Rr := Kd.K (Kd.int .i64) W4) (w0 := W4) W4.heap.size rfl (.tmp 6) (.tmp 9) 27 2 (.int .i64 0) 8 rfl Try.underlying27 info2 rfl (by decide) (by decide) (.slice none 0 0) [] xs Ax5 xs.length cx5 (fun _ => True) (fun _ => False) (by kernel_rfl) ((show _ = t.sv from by kernel_rfl).trans ex5) (Kd.R_nil _ _ _ _ _) hCx5 (fun _ _ hk => (Flat.int .i64).up hk) (fun _ hk => hk.elim) (fun _ _ => trivial) (Below.refl _ _) (Nat.le_refl _) (by simp only [List.length_nil]; omega) ?_
  intro v5 W5 hR5 hB _ _
  obtain ⟨A5, c5, rfl⟩ := Kd.R_slice hR5
  rw [List.nil_append] at hR5 ⊢
  have hW := hW.step hB
  have hK5 := KeepUp.refl W4.heap.size W5
  refine st_put (a' := (up (tp_b6 t g1 g3) [(8, .pointer (some ⟨g1, 18, none⟩)), (9, t.sv), (10, .slice A5 xs.length c5)])) (by kernel_rfl) ?_
  refine sk (a' := (up (tp_b6 t g1 g3) [(3, .slice A5 xs.length c5), (8, .pointer (some ⟨g1, 18, none⟩)), (9, t.sv), (10, .slice A5 xs.length c5)])) (.slice A5 xs.length c5) ?_
  refine wpList_nil ?_
  refine wp_seq ?_
  refine wp_region_list ?_
  refine skp (.slice none 0 0) ?_
  refine skp (.pointer (some ⟨g1, 19, none⟩)) ?_
  refine se (a' := (up (tp_b8 t xs g1 g3 A5 c5) [(13, t.bv)])) (t.bv) (ev1 hW 1 19 Try.underlying30) ?_
  have hK6_g3 : g3 < W5.heap.size := blk_lt (hW.blk 0 _ _ _ rfl).1
  have hK6_g1 : g1 < W5.heap.size := blk_lt (hW.blk 1 _ _ _ rfl).1
  have hK6_le : w.heap.size ≤ W5.heap.size := hW.below.size
  obtain ⟨Ax6, cx6, ex6, hcx6, hCx6⟩ := h.b.below hW.below
  refine Kd.R_append_rows k42 (Rr := Kd.K k42 W5) (w0 := W5) W5.heap.size rfl (.tmp 11) (.tmp 13) 30 42 (.agg #[.int .i64 0, .int .i64 0, .int .i64 0]) 24 rfl Try.underlying30 info42 rfl (by decide) (by decide) (.slice none 0 0) [] bs Ax6 bs.length cx6 (fun _ => True) (fun _ => False) (by kernel_rfl) ((show _ = t.bv from by kernel_rfl).trans ex6) (Kd.R_nil _ _ _ _ _) hCx6 (fun _ _ hk => (Flat.iso (Flat.pair (Flat.int .i64) (Flat.pair (Flat.int .i64) (Flat.int .i64))) _).up hk) (fun _ hk => hk.elim) (fun _ _ => trivial) (Below.refl _ _) (Nat.le_refl _) (by simp only [List.length_nil]; omega) ?_
  intro v6 W6 hR6 hB _ _
  obtain ⟨A6, c6, rfl⟩ := Kd.R_slice hR6
  rw [List.nil_append] at hR6 ⊢
  have hW := hW.step hB
  have hK5 := hK5.below hB
  have hK6 := KeepUp.refl W5.heap.size W6
  refine st_put (a' := (up (tp_b8 t xs g1 g3 A5 c5) [(13, t.bv), (14, .slice A6 bs.length c6)])) (by kernel_rfl) ?_
  refine sk (a' := (up (tp_b8 t xs g1 g3 A5 c5) [(4, .slice A6 bs.length c6), (13, t.bv), (14, .slice A6 bs.length c6)])) (.slice A6 bs.length c6) ?_
  refine wpList_nil ?_
  refine wp_seq ?_
  refine wp_region_list ?_
  refine skp (.slice none 0 0) ?_
  refine skp (.pointer (some ⟨g1, 20, none⟩)) ?_
  refine se (a' := (up (tp_b11 t xs bs g1 g3 A5 c5 A6 c6) [])) (t.nv) (ev1 hW 1 20 Try.underlying27) ?_
  have hK7_g3 : g3 < W6.heap.size := blk_lt (hW.blk 0 _ _ _ rfl).1
  have hK7_g1 : g1 < W6.heap.size := blk_lt (hW.blk 1 _ _ _ rfl).1
  have hK7_le : w.heap.size ≤ W6.heap.size := hW.below.size
  obtain ⟨Ax7, cx7, ex7, hcx7, hCx7⟩ := h.n.below hW.below
  refine Kd.R_append_rows (Kd.int .i64) (Rr := Kd.K (Kd.int .i64) W6) (w0 := W6) W6.heap.size rfl (.tmp 15) (.tmp 17) 27 2 (.int .i64 0) 8 rfl Try.underlying27 info2 rfl (by decide) (by decide) (.slice none 0 0) [] ns Ax7 ns.length cx7 (fun _ => True) (fun _ => False) (by kernel_rfl) ((show _ = t.nv from by kernel_rfl).trans ex7) (Kd.R_nil _ _ _ _ _) hCx7 (fun _ _ hk => (Flat.int .i64).up hk) (fun _ hk => hk.elim) (fun _ _ => trivial) (Below.refl _ _) (Nat.le_refl _) (by simp only [List.length_nil]; omega) ?_
  intro v7 W7 hR7 hB _ _
  obtain ⟨A7, c7, rfl⟩ := Kd.R_slice hR7
  rw [List.nil_append] at hR7 ⊢
  have hW := hW.step hB
  have hK5 := hK5.below hB
  have hK6 := hK6.below hB
  have hK7 := KeepUp.refl W6.heap.size W7
  refine st_put (a' := (up (tp_b11 t xs bs g1 g3 A5 c5 A6 c6) [(18, .slice A7 ns.length c7)])) (by kernel_rfl) ?_
  refine sk (a' := (up (tp_b11 t xs bs g1 g3 A5 c5 A6 c6) [(5, .slice A7 ns.length c7), (18, .slice A7 ns.length c7)])) (.slice A7 ns.length c7) ?_
  refine wpList_nil ?_
  refine wp_seq ?_
  refine wp_region_list ?_
  refine skp (.slice A5 xs.length c5) ?_
  refine skp (.pointer (some ⟨g1, 15, none⟩)) ?_
  refine sk (a' := (up (tp_b11 t xs bs g1 g3 A5 c5 A6 c6) [(5, .slice A7 ns.length c7), (18, .slice A7 ns.length c7), (19, .slice A5 xs.length c5), (20, .pointer (some ⟨g1, 15, none⟩)), (21, .pointer (some ⟨g1, 18, none⟩))])) (.pointer (some ⟨g1, 18, none⟩)) ?_
  obtain ⟨W8, hr, hW, hF⟩ := hW.store1 (P := Try.prog) (o := 18) (cs' := (tp_c2 t xs A5 c5)) (L' := [(g3, 32, tp_c1), (g1, 32, (tp_c2 t xs A5 c5))]) 1 rfl (.slice A5 xs.length c5) rfl (Nat.le_of_ble_eq_true rfl) (by rfl) rfl 27 (by kernel_rfl)
  have hK5 := hK5.store hF (.inl hK5_g1)
  have hK6 := hK6.store hF (.inl hK6_g1)
  have hK7 := hK7.store hF (.inl hK7_g1)
  refine st_none (w' := W8) (a' := (up (tp_b11 t xs bs g1 g3 A5 c5 A6 c6) [(5, .slice A7 ns.length c7), (18, .slice A7 ns.length c7), (19, .slice A5 xs.length c5), (20, .pointer (some ⟨g1, 15, none⟩)), (21, .pointer (some ⟨g1, 18, none⟩))])) (by kernel_rfl) (Eq.trans (b := (do Instr.storeAt 27 (.pointer (some ⟨g1, 18, none⟩)) (.slice A5 xs.length c5); pure Next.skip : Sem Next).run Try.prog W7) (by kernel_rfl) (st_unit hr)) (by kernel_rfl) ?_
  refine wpList_nil ?_
  refine wp_seq ?_
  refine wp_region_list ?_
  refine skp (.slice A6 bs.length c6) ?_
  refine sk (a' := (up (tp_b15 t xs bs ns g1 g3 A5 c5 A6 c6 A7 c7) [(23, .pointer (some ⟨g1, 19, none⟩))])) (.pointer (some ⟨g1, 19, none⟩)) ?_
  obtain ⟨W9, hr, hW, hF⟩ := hW.store1 (P := Try.prog) (o := 19) (cs' := (tp_c3 t xs bs A5 c5 A6 c6)) (L' := [(g3, 32, tp_c1), (g1, 32, (tp_c3 t xs bs A5 c5 A6 c6))]) 1 rfl (.slice A6 bs.length c6) rfl (Nat.le_of_ble_eq_true rfl) (by rfl) rfl 30 (by kernel_rfl)
  have hK5 := hK5.store hF (.inl hK5_g1)
  have hK6 := hK6.store hF (.inl hK6_g1)
  have hK7 := hK7.store hF (.inl hK7_g1)
  refine st_none (w' := W9) (a' := (up (tp_b15 t xs bs ns g1 g3 A5 c5 A6 c6 A7 c7) [(23, .pointer (some ⟨g1, 19, none⟩))])) (by kernel_rfl) (Eq.trans (b := (do Instr.storeAt 30 (.pointer (some ⟨g1, 19, none⟩)) (.slice A6 bs.length c6); pure Next.skip : Sem Next).run Try.prog W8) (by kernel_rfl) (st_unit hr)) (by kernel_rfl) ?_
  refine wpList_nil ?_
  refine wp_seq ?_
  refine wp_region_list ?_
  refine skp (.slice A7 ns.length c7) ?_
  refine sk (a' := (up (tp_b15 t xs bs ns g1 g3 A5 c5 A6 c6 A7 c7) [(23, .pointer (some ⟨g1, 19, none⟩)), (24, .slice A7 ns.length c7), (25, .pointer (some ⟨g1, 20, none⟩))])) (.pointer (some ⟨g1, 20, none⟩)) ?_
  obtain ⟨W10, hr, hW, hF⟩ := hW.store1 (P := Try.prog) (o := 20) (cs' := (tp_c4 t xs bs ns A5 c5 A6 c6 A7 c7)) (L' := [(g3, 32, tp_c1), (g1, 32, (tp_c4 t xs bs ns A5 c5 A6 c6 A7 c7))]) 1 rfl (.slice A7 ns.length c7) rfl (Nat.le_of_ble_eq_true rfl) (by rfl) rfl 27 (by kernel_rfl)
  have hK5 := hK5.store hF (.inl hK5_g1)
  have hK6 := hK6.store hF (.inl hK6_g1)
  have hK7 := hK7.store hF (.inl hK7_g1)
  refine st_none (w' := W10) (a' := (up (tp_b15 t xs bs ns g1 g3 A5 c5 A6 c6 A7 c7) [(23, .pointer (some ⟨g1, 19, none⟩)), (24, .slice A7 ns.length c7), (25, .pointer (some ⟨g1, 20, none⟩))])) (by kernel_rfl) (Eq.trans (b := (do Instr.storeAt 27 (.pointer (some ⟨g1, 20, none⟩)) (.slice A7 ns.length c7); pure Next.skip : Sem Next).run Try.prog W9) (by kernel_rfl) (st_unit hr)) (by kernel_rfl) ?_
  refine wpList_nil ?_
  refine wp_seq ?_
  refine wp_region_list ?_
  refine se (a' := (up (tp_b15 t xs bs ns g1 g3 A5 c5 A6 c6 A7 c7) [(23, .pointer (some ⟨g1, 19, none⟩)), (24, .slice A7 ns.length c7), (25, .pointer (some ⟨g1, 20, none⟩)), (26, .agg (tp_c4 t xs bs ns A5 c5 A6 c6 A7 c7))])) (.agg (tp_c4 t xs bs ns A5 c5 A6 c6 A7 c7)) (evA hW 1 0 Try.underlying32) ?_
  obtain ⟨W11, hr, hW, hF⟩ := hW.storeN (P := Try.prog) (o := 0) (cs' := (tp_c4 t xs bs ns A5 c5 A6 c6 A7 c7)) (L' := [(g3, 32, (tp_c4 t xs bs ns A5 c5 A6 c6 A7 c7)), (g1, 32, (tp_c4 t xs bs ns A5 c5 A6 c6 A7 c7))]) 0 rfl (tp_c4 t xs bs ns A5 c5 A6 c6 A7 c7) (by kernel_rfl) (Nat.le_of_ble_eq_true rfl) (by kernel_rfl) rfl 32 (by kernel_rfl)
  have hK5 := hK5.store hF (.inl hK5_g3)
  have hK6 := hK6.store hF (.inl hK6_g3)
  have hK7 := hK7.store hF (.inl hK7_g3)
  refine st_none (w' := W11) (a' := (up (tp_b15 t xs bs ns g1 g3 A5 c5 A6 c6 A7 c7) [(23, .pointer (some ⟨g1, 19, none⟩)), (24, .slice A7 ns.length c7), (25, .pointer (some ⟨g1, 20, none⟩)), (26, .agg (tp_c4 t xs bs ns A5 c5 A6 c6 A7 c7))])) (by kernel_rfl) (Eq.trans (b := (do Instr.storeAt 32 (.pointer (some ⟨g3, 0, none⟩)) (.agg (tp_c4 t xs bs ns A5 c5 A6 c6 A7 c7)); pure Next.skip : Sem Next).run Try.prog W10) (by kernel_rfl) (st_unit hr)) (by kernel_rfl) ?_
  refine wpList_nil ?_
  refine wp_ret ?_
  (try simp only [Exit.then, Exit.inBlock])
  change bodyPost Try.prog Try.f11 _ .ret _ _
  refine bodyPost_ret (results_single rfl (.cell g3 32 _ (0, 0) _ (by kernel_rfl) (hW.blk 0 _ _ _ rfl).1 Try.underlying32 rfl (by kernel_rfl) .nil)) rfl ?_
  exact ⟨A5, c5, A6, c6, A7, c7, rfl, ⟨Kd.R_lower (hK5.R hR5) hK5_le, Kd.R_lower (hK6.R hR6) hK6_le, Kd.R_lower (hK7.R hR7) hK7_le⟩, hW.below⟩
def tw_c0 (t : Th) (xs : List Int) (bs : List S42) (ns : List Int) (As : Option Addr) (cs : Nat) (Ab : Option Addr) (cb : Nat) (An : Option Addr) (cn : Nat) : Array Value := #[.int .i64 t.pc, .int .i64 t.fu, .int .i64 t.st, .int .i64 (t.R 0), .int .i64 (t.R 1), .int .i64 (t.R 2), .int .i64 (t.R 3), .int .i64 (t.R 4), .int .i64 (t.R 5), .int .i64 (t.R 6), .int .i64 (t.R 7), .int .i64 (t.R 8), .int .i64 (t.R 9), .int .i64 (t.R 10), .int .i64 (t.R 11), .int .i64 t.kd, .int .i64 t.mi, .int .i64 t.mn, .slice As xs.length cs, .slice Ab bs.length cb, .slice An ns.length cn, .int .i64 t.old]
def tw_l1 (t : Th) (xs : List Int) (bs : List S42) (ns : List Int) (As : Option Addr) (cs : Nat) (Ab : Option Addr) (cb : Nat) (An : Option Addr) (cn : Nat) (g1 : Nat) : List Value := [.agg (tw_c0 t xs bs ns As cs Ab cb An cn), .pointer (some ⟨g1, 0, none⟩), zz, zz, zz, zz, zz, zz, zz, zz, zz, zz, zz, zz, zz, zz]
def tw_l2 : List Value := [zz, zz, zz, zz, zz, zz, zz, zz, zz, zz, zz, zz, zz, zz, zz]
def tw_b3 (t : Th) (xs : List Int) (bs : List S42) (ns : List Int) (As : Option Addr) (cs : Nat) (Ab : Option Addr) (cb : Nat) (An : Option Addr) (cn : Nat) (g1 : Nat) : List Value := (tw_l1 t xs bs ns As cs Ab cb An cn g1) ++ (tw_l2)
def tw_c1 : Array Value := #[.int .i64 0, .int .i64 0, .int .i64 0, .int .i64 0, .int .i64 0, .int .i64 0, .int .i64 0, .int .i64 0, .int .i64 0, .int .i64 0, .int .i64 0, .int .i64 0, .int .i64 0, .int .i64 0, .int .i64 0, .int .i64 0, .int .i64 0, .int .i64 0, .slice none 0 0, .slice none 0 0, .slice none 0 0, .int .i64 0]
def tw_l5 (t : Th) (xs : List Int) (bs : List S42) (ns : List Int) (As : Option Addr) (cs : Nat) (Ab : Option Addr) (cb : Nat) (An : Option Addr) (cn : Nat) (g1 : Nat) (g3 : Nat) : List Value := [.agg (tw_c0 t xs bs ns As cs Ab cb An cn), .pointer (some ⟨g1, 0, none⟩), .pointer (some ⟨g3, 0, none⟩), .pointer (some ⟨g1, 19, none⟩), .slice Ab bs.length cb, .int .i64 (bs.length : Int), .bool true, .pointer (some ⟨g1, 19, none⟩), zz, zz, zz, zz, zz, zz, zz, zz]
def tw_b6 (t : Th) (xs : List Int) (bs : List S42) (ns : List Int) (As : Option Addr) (cs : Nat) (Ab : Option Addr) (cb : Nat) (An : Option Addr) (cn : Nat) (g1 : Nat) (g3 : Nat) : List Value := (tw_l5 t xs bs ns As cs Ab cb An cn g1 g3) ++ (tw_l2)
def tw_c2 (t : Th) (xs : List Int) (ns : List Int) (As : Option Addr) (cs : Nat) (Ab : Option Addr) (cb : Nat) (An : Option Addr) (cn : Nat) : Array Value := #[.int .i64 t.pc, .int .i64 t.fu, .int .i64 t.st, .int .i64 (t.R 0), .int .i64 (t.R 1), .int .i64 (t.R 2), .int .i64 (t.R 3), .int .i64 (t.R 4), .int .i64 (t.R 5), .int .i64 (t.R 6), .int .i64 (t.R 7), .int .i64 (t.R 8), .int .i64 (t.R 9), .int .i64 (t.R 10), .int .i64 (t.R 11), .int .i64 t.kd, .int .i64 t.mi, .int .i64 t.mn, .slice As xs.length cs, .slice Ab 12 cb, .slice An ns.length cn, .int .i64 t.old]
def tw_l8 (t : Th) (xs : List Int) (bs : List S42) (ns : List Int) (As : Option Addr) (cs : Nat) (Ab : Option Addr) (cb : Nat) (An : Option Addr) (cn : Nat) (g1 : Nat) (g3 : Nat) : List Value := [.agg (tw_c0 t xs bs ns As cs Ab cb An cn), .pointer (some ⟨g1, 0, none⟩), .pointer (some ⟨g3, 0, none⟩), .pointer (some ⟨g1, 19, none⟩), .slice Ab bs.length cb, .int .i64 (bs.length : Int), .bool true, .pointer (some ⟨g1, 19, none⟩), .slice Ab bs.length cb, .slice Ab 12 cb, .pointer (some ⟨g1, 19, none⟩), .pointer (some ⟨g1, 20, none⟩), .slice An ns.length cn, .int .i64 (ns.length : Int), zz, zz]
def tw_b9 (t : Th) (xs : List Int) (bs : List S42) (ns : List Int) (As : Option Addr) (cs : Nat) (Ab : Option Addr) (cb : Nat) (An : Option Addr) (cn : Nat) (g1 : Nat) (g3 : Nat) : List Value := (tw_l8 t xs bs ns As cs Ab cb An cn g1 g3) ++ (tw_l2)
def tw_c3 (t : Th) (xs : List Int) (As : Option Addr) (cs : Nat) (Ab : Option Addr) (cb : Nat) (An : Option Addr) (cn : Nat) : Array Value := #[.int .i64 t.pc, .int .i64 t.fu, .int .i64 t.st, .int .i64 (t.R 0), .int .i64 (t.R 1), .int .i64 (t.R 2), .int .i64 (t.R 3), .int .i64 (t.R 4), .int .i64 (t.R 5), .int .i64 (t.R 6), .int .i64 (t.R 7), .int .i64 (t.R 8), .int .i64 (t.R 9), .int .i64 (t.R 10), .int .i64 (t.R 11), .int .i64 t.kd, .int .i64 t.mi, .int .i64 t.mn, .slice As xs.length cs, .slice Ab 12 cb, .slice An 8 cn, .int .i64 t.old]
def tw_l11 (t : Th) (xs : List Int) (bs : List S42) (ns : List Int) (As : Option Addr) (cs : Nat) (Ab : Option Addr) (cb : Nat) (An : Option Addr) (cn : Nat) (g1 : Nat) (g3 : Nat) : List Value := [.agg (tw_c0 t xs bs ns As cs Ab cb An cn), .pointer (some ⟨g1, 0, none⟩), .pointer (some ⟨g3, 0, none⟩), .pointer (some ⟨g1, 19, none⟩), .slice Ab bs.length cb, .int .i64 (bs.length : Int), .bool true, .pointer (some ⟨g1, 19, none⟩), .slice Ab bs.length cb, .slice Ab 12 cb, .pointer (some ⟨g1, 19, none⟩), .pointer (some ⟨g1, 20, none⟩), .slice An ns.length cn, .int .i64 (ns.length : Int), .bool true, .pointer (some ⟨g1, 20, none⟩)]
def tw_l12 (ns : List Int) (An : Option Addr) (cn : Nat) (g1 : Nat) : List Value := [.slice An ns.length cn, .slice An 8 cn, .pointer (some ⟨g1, 20, none⟩), .pointer (some ⟨g1, 15, none⟩), zz, zz, zz, zz, zz, zz, zz, zz, zz, zz, zz]
def tw_b13 (t : Th) (xs : List Int) (bs : List S42) (ns : List Int) (As : Option Addr) (cs : Nat) (Ab : Option Addr) (cb : Nat) (An : Option Addr) (cn : Nat) (g1 : Nat) (g3 : Nat) : List Value := (tw_l11 t xs bs ns As cs Ab cb An cn g1 g3) ++ ((tw_l12 ns An cn g1))
def tw_l14 (xs : List Int) (ns : List Int) (As : Option Addr) (cs : Nat) (An : Option Addr) (cn : Nat) (g1 : Nat) : List Value := [.slice An ns.length cn, .slice An 8 cn, .pointer (some ⟨g1, 20, none⟩), .pointer (some ⟨g1, 15, none⟩), .pointer (some ⟨g1, 18, none⟩), .slice As xs.length cs, .int .i64 (xs.length : Int), .bool true, .pointer (some ⟨g1, 15, none⟩), .pointer (some ⟨g1, 18, none⟩), zz, zz, zz, zz, zz]
def tw_b15 (t : Th) (xs : List Int) (bs : List S42) (ns : List Int) (As : Option Addr) (cs : Nat) (Ab : Option Addr) (cb : Nat) (An : Option Addr) (cn : Nat) (g1 : Nat) (g3 : Nat) : List Value := (tw_l11 t xs bs ns As cs Ab cb An cn g1 g3) ++ ((tw_l14 xs ns As cs An cn g1))
def tw_c4 (t : Th) (As : Option Addr) (cs : Nat) (Ab : Option Addr) (cb : Nat) (An : Option Addr) (cn : Nat) : Array Value := #[.int .i64 t.pc, .int .i64 t.fu, .int .i64 t.st, .int .i64 (t.R 0), .int .i64 (t.R 1), .int .i64 (t.R 2), .int .i64 (t.R 3), .int .i64 (t.R 4), .int .i64 (t.R 5), .int .i64 (t.R 6), .int .i64 (t.R 7), .int .i64 (t.R 8), .int .i64 (t.R 9), .int .i64 (t.R 10), .int .i64 (t.R 11), .int .i64 t.kd, .int .i64 t.mi, .int .i64 t.mn, .slice As 12 cs, .slice Ab 12 cb, .slice An 8 cn, .int .i64 t.old]
def tw_l17 (t : Th) (xs : List Int) (bs : List S42) (ns : List Int) (As : Option Addr) (cs : Nat) (Ab : Option Addr) (cb : Nat) (An : Option Addr) (cn : Nat) (g1 : Nat) (g3 : Nat) : List Value := [.agg (tw_c0 t xs bs ns As cs Ab cb An cn), .pointer (some ⟨g1, 0, none⟩), .pointer (some ⟨g3, 0, none⟩), .pointer (some ⟨g1, 19, none⟩), .slice Ab bs.length cb, .int .i64 (bs.length : Int), .bool true, .pointer (some ⟨g1, 19, none⟩), .slice Ab bs.length cb, .slice Ab 12 cb, .pointer (some ⟨g1, 19, none⟩), .pointer (some ⟨g1, 20, none⟩), .slice An ns.length cn, .int .i64 (ns.length : Int), .bool false, zz]
def tw_l18 (xs : List Int) (As : Option Addr) (cs : Nat) (g1 : Nat) : List Value := [zz, zz, zz, .pointer (some ⟨g1, 15, none⟩), .pointer (some ⟨g1, 18, none⟩), .slice As xs.length cs, .int .i64 (xs.length : Int), .bool true, zz, zz, zz, zz, zz, zz, zz]
def tw_b19 (t : Th) (xs : List Int) (bs : List S42) (ns : List Int) (As : Option Addr) (cs : Nat) (Ab : Option Addr) (cb : Nat) (An : Option Addr) (cn : Nat) (g1 : Nat) (g3 : Nat) : List Value := (tw_l17 t xs bs ns As cs Ab cb An cn g1 g3) ++ ((tw_l18 xs As cs g1))
def tw_l20 (xs : List Int) (As : Option Addr) (cs : Nat) (g1 : Nat) : List Value := [zz, zz, zz, .pointer (some ⟨g1, 15, none⟩), .pointer (some ⟨g1, 18, none⟩), .slice As xs.length cs, .int .i64 (xs.length : Int), .bool true, .pointer (some ⟨g1, 15, none⟩), .pointer (some ⟨g1, 18, none⟩), .slice As xs.length cs, .slice As 12 cs, .pointer (some ⟨g1, 15, none⟩), .pointer (some ⟨g1, 18, none⟩), zz]
def tw_b21 (t : Th) (xs : List Int) (bs : List S42) (ns : List Int) (As : Option Addr) (cs : Nat) (Ab : Option Addr) (cb : Nat) (An : Option Addr) (cn : Nat) (g1 : Nat) (g3 : Nat) : List Value := (tw_l17 t xs bs ns As cs Ab cb An cn g1 g3) ++ ((tw_l20 xs As cs g1))
def tw_c5 (t : Th) (ns : List Int) (As : Option Addr) (cs : Nat) (Ab : Option Addr) (cb : Nat) (An : Option Addr) (cn : Nat) : Array Value := #[.int .i64 t.pc, .int .i64 t.fu, .int .i64 t.st, .int .i64 (t.R 0), .int .i64 (t.R 1), .int .i64 (t.R 2), .int .i64 (t.R 3), .int .i64 (t.R 4), .int .i64 (t.R 5), .int .i64 (t.R 6), .int .i64 (t.R 7), .int .i64 (t.R 8), .int .i64 (t.R 9), .int .i64 (t.R 10), .int .i64 (t.R 11), .int .i64 t.kd, .int .i64 t.mi, .int .i64 t.mn, .slice As 12 cs, .slice Ab 12 cb, .slice An ns.length cn, .int .i64 t.old]
def tw_l23 (xs : List Int) (As : Option Addr) (cs : Nat) (g1 : Nat) : List Value := [zz, zz, zz, .pointer (some ⟨g1, 15, none⟩), .pointer (some ⟨g1, 18, none⟩), .slice As xs.length cs, .int .i64 (xs.length : Int), .bool false, zz, zz, zz, zz, zz, zz, zz]
def tw_b24 (t : Th) (xs : List Int) (bs : List S42) (ns : List Int) (As : Option Addr) (cs : Nat) (Ab : Option Addr) (cb : Nat) (An : Option Addr) (cn : Nat) (g1 : Nat) (g3 : Nat) : List Value := (tw_l17 t xs bs ns As cs Ab cb An cn g1 g3) ++ ((tw_l23 xs As cs g1))
def tw_l25 (t : Th) (xs : List Int) (bs : List S42) (ns : List Int) (As : Option Addr) (cs : Nat) (Ab : Option Addr) (cb : Nat) (An : Option Addr) (cn : Nat) (g1 : Nat) (g3 : Nat) : List Value := [.agg (tw_c0 t xs bs ns As cs Ab cb An cn), .pointer (some ⟨g1, 0, none⟩), .pointer (some ⟨g3, 0, none⟩), .pointer (some ⟨g1, 19, none⟩), .slice Ab bs.length cb, .int .i64 (bs.length : Int), .bool false, zz, zz, zz, zz, .pointer (some ⟨g1, 20, none⟩), zz, zz, zz, zz]
def tw_b26 (t : Th) (xs : List Int) (bs : List S42) (ns : List Int) (As : Option Addr) (cs : Nat) (Ab : Option Addr) (cb : Nat) (An : Option Addr) (cn : Nat) (g1 : Nat) (g3 : Nat) : List Value := (tw_l25 t xs bs ns As cs Ab cb An cn g1 g3) ++ (tw_l2)
def tw_l27 (t : Th) (xs : List Int) (bs : List S42) (ns : List Int) (As : Option Addr) (cs : Nat) (Ab : Option Addr) (cb : Nat) (An : Option Addr) (cn : Nat) (g1 : Nat) (g3 : Nat) : List Value := [.agg (tw_c0 t xs bs ns As cs Ab cb An cn), .pointer (some ⟨g1, 0, none⟩), .pointer (some ⟨g3, 0, none⟩), .pointer (some ⟨g1, 19, none⟩), .slice Ab bs.length cb, .int .i64 (bs.length : Int), .bool false, zz, zz, zz, zz, .pointer (some ⟨g1, 20, none⟩), .slice An ns.length cn, .int .i64 (ns.length : Int), .bool true, .pointer (some ⟨g1, 20, none⟩)]
def tw_l28 (ns : List Int) (An : Option Addr) (cn : Nat) : List Value := [.slice An ns.length cn, .slice An 8 cn, zz, zz, zz, zz, zz, zz, zz, zz, zz, zz, zz, zz, zz]
def tw_b29 (t : Th) (xs : List Int) (bs : List S42) (ns : List Int) (As : Option Addr) (cs : Nat) (Ab : Option Addr) (cb : Nat) (An : Option Addr) (cn : Nat) (g1 : Nat) (g3 : Nat) : List Value := (tw_l27 t xs bs ns As cs Ab cb An cn g1 g3) ++ ((tw_l28 ns An cn))
def tw_c6 (t : Th) (xs : List Int) (bs : List S42) (As : Option Addr) (cs : Nat) (Ab : Option Addr) (cb : Nat) (An : Option Addr) (cn : Nat) : Array Value := #[.int .i64 t.pc, .int .i64 t.fu, .int .i64 t.st, .int .i64 (t.R 0), .int .i64 (t.R 1), .int .i64 (t.R 2), .int .i64 (t.R 3), .int .i64 (t.R 4), .int .i64 (t.R 5), .int .i64 (t.R 6), .int .i64 (t.R 7), .int .i64 (t.R 8), .int .i64 (t.R 9), .int .i64 (t.R 10), .int .i64 (t.R 11), .int .i64 t.kd, .int .i64 t.mi, .int .i64 t.mn, .slice As xs.length cs, .slice Ab bs.length cb, .slice An 8 cn, .int .i64 t.old]
def tw_l31 (xs : List Int) (ns : List Int) (As : Option Addr) (cs : Nat) (An : Option Addr) (cn : Nat) (g1 : Nat) : List Value := [.slice An ns.length cn, .slice An 8 cn, .pointer (some ⟨g1, 20, none⟩), .pointer (some ⟨g1, 15, none⟩), .pointer (some ⟨g1, 18, none⟩), .slice As xs.length cs, .int .i64 (xs.length : Int), .bool true, zz, zz, zz, zz, zz, zz, zz]
def tw_b32 (t : Th) (xs : List Int) (bs : List S42) (ns : List Int) (As : Option Addr) (cs : Nat) (Ab : Option Addr) (cb : Nat) (An : Option Addr) (cn : Nat) (g1 : Nat) (g3 : Nat) : List Value := (tw_l27 t xs bs ns As cs Ab cb An cn g1 g3) ++ ((tw_l31 xs ns As cs An cn g1))
def tw_l33 (xs : List Int) (ns : List Int) (As : Option Addr) (cs : Nat) (An : Option Addr) (cn : Nat) (g1 : Nat) : List Value := [.slice An ns.length cn, .slice An 8 cn, .pointer (some ⟨g1, 20, none⟩), .pointer (some ⟨g1, 15, none⟩), .pointer (some ⟨g1, 18, none⟩), .slice As xs.length cs, .int .i64 (xs.length : Int), .bool true, .pointer (some ⟨g1, 15, none⟩), .pointer (some ⟨g1, 18, none⟩), .slice As xs.length cs, .slice As 12 cs, .pointer (some ⟨g1, 15, none⟩), .pointer (some ⟨g1, 18, none⟩), zz]
def tw_b34 (t : Th) (xs : List Int) (bs : List S42) (ns : List Int) (As : Option Addr) (cs : Nat) (Ab : Option Addr) (cb : Nat) (An : Option Addr) (cn : Nat) (g1 : Nat) (g3 : Nat) : List Value := (tw_l27 t xs bs ns As cs Ab cb An cn g1 g3) ++ ((tw_l33 xs ns As cs An cn g1))
def tw_c7 (t : Th) (bs : List S42) (As : Option Addr) (cs : Nat) (Ab : Option Addr) (cb : Nat) (An : Option Addr) (cn : Nat) : Array Value := #[.int .i64 t.pc, .int .i64 t.fu, .int .i64 t.st, .int .i64 (t.R 0), .int .i64 (t.R 1), .int .i64 (t.R 2), .int .i64 (t.R 3), .int .i64 (t.R 4), .int .i64 (t.R 5), .int .i64 (t.R 6), .int .i64 (t.R 7), .int .i64 (t.R 8), .int .i64 (t.R 9), .int .i64 (t.R 10), .int .i64 (t.R 11), .int .i64 t.kd, .int .i64 t.mi, .int .i64 t.mn, .slice As 12 cs, .slice Ab bs.length cb, .slice An 8 cn, .int .i64 t.old]
def tw_l36 (xs : List Int) (ns : List Int) (As : Option Addr) (cs : Nat) (An : Option Addr) (cn : Nat) (g1 : Nat) : List Value := [.slice An ns.length cn, .slice An 8 cn, .pointer (some ⟨g1, 20, none⟩), .pointer (some ⟨g1, 15, none⟩), .pointer (some ⟨g1, 18, none⟩), .slice As xs.length cs, .int .i64 (xs.length : Int), .bool false, zz, zz, zz, zz, zz, zz, zz]
def tw_b37 (t : Th) (xs : List Int) (bs : List S42) (ns : List Int) (As : Option Addr) (cs : Nat) (Ab : Option Addr) (cb : Nat) (An : Option Addr) (cn : Nat) (g1 : Nat) (g3 : Nat) : List Value := (tw_l27 t xs bs ns As cs Ab cb An cn g1 g3) ++ ((tw_l36 xs ns As cs An cn g1))
def tw_l38 (t : Th) (xs : List Int) (bs : List S42) (ns : List Int) (As : Option Addr) (cs : Nat) (Ab : Option Addr) (cb : Nat) (An : Option Addr) (cn : Nat) (g1 : Nat) (g3 : Nat) : List Value := [.agg (tw_c0 t xs bs ns As cs Ab cb An cn), .pointer (some ⟨g1, 0, none⟩), .pointer (some ⟨g3, 0, none⟩), .pointer (some ⟨g1, 19, none⟩), .slice Ab bs.length cb, .int .i64 (bs.length : Int), .bool false, zz, zz, zz, zz, .pointer (some ⟨g1, 20, none⟩), .slice An ns.length cn, .int .i64 (ns.length : Int), .bool false, zz]
def tw_l39 (xs : List Int) (As : Option Addr) (cs : Nat) (g1 : Nat) : List Value := [zz, zz, zz, .pointer (some ⟨g1, 15, none⟩), .pointer (some ⟨g1, 18, none⟩), .slice As xs.length cs, zz, zz, zz, zz, zz, zz, zz, zz, zz]
def tw_b40 (t : Th) (xs : List Int) (bs : List S42) (ns : List Int) (As : Option Addr) (cs : Nat) (Ab : Option Addr) (cb : Nat) (An : Option Addr) (cn : Nat) (g1 : Nat) (g3 : Nat) : List Value := (tw_l38 t xs bs ns As cs Ab cb An cn g1 g3) ++ ((tw_l39 xs As cs g1))
def tw_l41 (xs : List Int) (As : Option Addr) (cs : Nat) (g1 : Nat) : List Value := [zz, zz, zz, .pointer (some ⟨g1, 15, none⟩), .pointer (some ⟨g1, 18, none⟩), .slice As xs.length cs, .int .i64 (xs.length : Int), .bool true, .pointer (some ⟨g1, 15, none⟩), .pointer (some ⟨g1, 18, none⟩), .slice As xs.length cs, .slice As 12 cs, zz, zz, zz]
def tw_b42 (t : Th) (xs : List Int) (bs : List S42) (ns : List Int) (As : Option Addr) (cs : Nat) (Ab : Option Addr) (cb : Nat) (An : Option Addr) (cn : Nat) (g1 : Nat) (g3 : Nat) : List Value := (tw_l38 t xs bs ns As cs Ab cb An cn g1 g3) ++ ((tw_l41 xs As cs g1))
def tw_c8 (t : Th) (bs : List S42) (ns : List Int) (As : Option Addr) (cs : Nat) (Ab : Option Addr) (cb : Nat) (An : Option Addr) (cn : Nat) : Array Value := #[.int .i64 t.pc, .int .i64 t.fu, .int .i64 t.st, .int .i64 (t.R 0), .int .i64 (t.R 1), .int .i64 (t.R 2), .int .i64 (t.R 3), .int .i64 (t.R 4), .int .i64 (t.R 5), .int .i64 (t.R 6), .int .i64 (t.R 7), .int .i64 (t.R 8), .int .i64 (t.R 9), .int .i64 (t.R 10), .int .i64 (t.R 11), .int .i64 t.kd, .int .i64 t.mi, .int .i64 t.mn, .slice As 12 cs, .slice Ab bs.length cb, .slice An ns.length cn, .int .i64 t.old]
set_option maxHeartbeats 8000000 in
set_option maxRecDepth 100000 in
theorem th_Few {w : World} {t : Th} {xs : List Int} {bs : List S42} {ns : List Int} {As : Option Addr} {cs : Nat} {Ab : Option Addr} {cb : Nat} {An : Option Addr} {cn : Nat} (hrc : xs.length ≤ cs ∧ bs.length ≤ cb ∧ ns.length ≤ cn) : Calls Try.prog 10 #[.agg (t.rows (.slice As xs.length cs) (.slice Ab bs.length cb) (.slice An ns.length cn)).cells] w fun e w' => e = .returned (.agg (t.rows (.slice As (xs.take 12).length cs) (.slice Ab (bs.take 12).length cb) (.slice An (ns.take 8).length cn)).cells) ∧ Below w.heap.size w w' := by
  refine calls_of_wp Try.func10 rfl ?_
  have hW := Ws.nil w
  refine wp_seq ?_
  refine wp_region_list ?_
  obtain ⟨g1, W2, hr, hW, hbb, hge⟩ := hW.mk1 (P := Try.prog) (s := Instr.box 32 (.agg (tw_c0 t xs bs ns As cs Ab cb An cn))) (tw_c0 t xs bs ns As cs Ab cb An cn) 32 (by kernel_rfl)
  refine se (a' := (up (tw_b3 t xs bs ns As cs Ab cb An cn g1) [])) (.pointer (some ⟨g1, 0, none⟩)) (Eq.trans (b := (do pure (Next.value (← Instr.box 32 (.agg (tw_c0 t xs bs ns As cs Ab cb An cn)))) : Sem Next).run Try.prog w) (by kernel_rfl) (st_val hr)) ?_
  obtain ⟨g3, W4, hr, hW, hbb, hge⟩ := hW.mk1 (P := Try.prog) (s := Instr.alloc 32 true (.tuple #[])) tw_c1 32 (by kernel_rfl)
  refine se (a' := (up (tw_b3 t xs bs ns As cs Ab cb An cn g1) [(2, .pointer (some ⟨g3, 0, none⟩))])) (.pointer (some ⟨g3, 0, none⟩)) (Eq.trans (b := (do pure (Next.value (← Instr.alloc 32 true (.tuple #[]))) : Sem Next).run Try.prog W2) (by kernel_rfl) (st_val hr)) ?_
  refine wpList_nil ?_
  refine wp_seq ?_
  refine wp_seq ?_
  by_cases hb : (bs.length : Int) > 12
  · skip
    refine wp_region_list ?_
    refine skp (.pointer (some ⟨g1, 19, none⟩)) ?_
    refine sep (.slice Ab bs.length cb) (ev1 hW 1 19 Try.underlying30) ?_
    refine sk (a' := (up (tw_b3 t xs bs ns As cs Ab cb An cn g1) [(2, .pointer (some ⟨g3, 0, none⟩)), (3, .pointer (some ⟨g1, 19, none⟩)), (4, .slice Ab bs.length cb), (5, .int .i64 (bs.length : Int))])) (.int .i64 (bs.length : Int)) ?_
    refine se (a' := (up (tw_b3 t xs bs ns As cs Ab cb An cn g1) [(2, .pointer (some ⟨g3, 0, none⟩)), (3, .pointer (some ⟨g1, 19, none⟩)), (4, .slice Ab bs.length cb), (5, .int .i64 (bs.length : Int)), (6, .bool true)])) (.bool true) (Eq.trans (b := .ok (.value (.bool (decide (((bs.length : Int) : Int) > 12)))) W4) (by kernel_rfl) (st_ok (decide_eq_true (by omega)))) ?_
    refine wpList_nil ?_
    refine wp_cond (t := true) (by kernel_rfl) ?_
    refine wp_region_list ?_
    refine skp (.pointer (some ⟨g1, 19, none⟩)) ?_
    refine sep (.slice Ab bs.length cb) (ev1 hW 1 19 Try.underlying30) ?_
    refine se (a' := (up (tw_b6 t xs bs ns As cs Ab cb An cn g1 g3) [(8, .slice Ab bs.length cb), (9, .slice Ab 12 cb)])) (.slice Ab 12 cb) (Eq.trans (b := (do pure (Next.value (← Instr.sliceAt 30 (.slice Ab bs.length cb) none (some (.int .i64 ((12 : Nat) : Int))) none)) : Sem Next).run Try.prog W4) (by kernel_rfl) (st_val (sl_cut Try.underlying30 (Classical.choose_spec inf42) 12 (by omega) hrc.2.1 W4))) ?_
    refine sk (a' := (up (tw_b6 t xs bs ns As cs Ab cb An cn g1 g3) [(8, .slice Ab bs.length cb), (9, .slice Ab 12 cb), (10, .pointer (some ⟨g1, 19, none⟩))])) (.pointer (some ⟨g1, 19, none⟩)) ?_
    obtain ⟨W5, hr, hW, hF⟩ := hW.store1 (P := Try.prog) (o := 19) (cs' := (tw_c2 t xs ns As cs Ab cb An cn)) (L' := [(g3, 32, tw_c1), (g1, 32, (tw_c2 t xs ns As cs Ab cb An cn))]) 1 rfl (.slice Ab 12 cb) rfl (Nat.le_of_ble_eq_true rfl) (by rfl) rfl 30 (by kernel_rfl)
    refine st_none (w' := W5) (a' := (up (tw_b6 t xs bs ns As cs Ab cb An cn g1 g3) [(8, .slice Ab bs.length cb), (9, .slice Ab 12 cb), (10, .pointer (some ⟨g1, 19, none⟩))])) (by kernel_rfl) (Eq.trans (b := (do Instr.storeAt 30 (.pointer (some ⟨g1, 19, none⟩)) (.slice Ab 12 cb); pure Next.skip : Sem Next).run Try.prog W4) (by kernel_rfl) (st_unit hr)) (by kernel_rfl) ?_
    refine wpList_nil ?_
    refine wp_seq ?_
    refine wp_seq ?_
    by_cases hn : (ns.length : Int) > 8
    · skip
      refine wp_region_list ?_
      refine skp (.pointer (some ⟨g1, 20, none⟩)) ?_
      refine sep (.slice An ns.length cn) (ev1 hW 1 20 Try.underlying27) ?_
      refine sk (a' := (up (tw_b9 t xs bs ns As cs Ab cb An cn g1 g3) [])) (.int .i64 (ns.length : Int)) ?_
      refine se (a' := (up (tw_b9 t xs bs ns As cs Ab cb An cn g1 g3) [(14, .bool true)])) (.bool true) (Eq.trans (b := .ok (.value (.bool (decide (((ns.length : Int) : Int) > 8)))) W5) (by kernel_rfl) (st_ok (decide_eq_true (by omega)))) ?_
      refine wpList_nil ?_
      refine wp_cond (t := true) (by kernel_rfl) ?_
      refine wp_region_list ?_
      refine skp (.pointer (some ⟨g1, 20, none⟩)) ?_
      refine sep (.slice An ns.length cn) (ev1 hW 1 20 Try.underlying27) ?_
      refine se (a' := (up (tw_b9 t xs bs ns As cs Ab cb An cn g1 g3) [(14, .bool true), (15, .pointer (some ⟨g1, 20, none⟩)), (16, .slice An ns.length cn), (17, .slice An 8 cn)])) (.slice An 8 cn) (Eq.trans (b := (do pure (Next.value (← Instr.sliceAt 27 (.slice An ns.length cn) none (some (.int .i64 ((8 : Nat) : Int))) none)) : Sem Next).run Try.prog W5) (by kernel_rfl) (st_val (sl_cut Try.underlying27 (Classical.choose_spec inf2) 8 (by omega) hrc.2.2 W5))) ?_
      refine sk (a' := (up (tw_b9 t xs bs ns As cs Ab cb An cn g1 g3) [(14, .bool true), (15, .pointer (some ⟨g1, 20, none⟩)), (16, .slice An ns.length cn), (17, .slice An 8 cn), (18, .pointer (some ⟨g1, 20, none⟩))])) (.pointer (some ⟨g1, 20, none⟩)) ?_
      obtain ⟨W6, hr, hW, hF⟩ := hW.store1 (P := Try.prog) (o := 20) (cs' := (tw_c3 t xs As cs Ab cb An cn)) (L' := [(g3, 32, tw_c1), (g1, 32, (tw_c3 t xs As cs Ab cb An cn))]) 1 rfl (.slice An 8 cn) rfl (Nat.le_of_ble_eq_true rfl) (by rfl) rfl 27 (by kernel_rfl)
      refine st_none (w' := W6) (a' := (up (tw_b9 t xs bs ns As cs Ab cb An cn g1 g3) [(14, .bool true), (15, .pointer (some ⟨g1, 20, none⟩)), (16, .slice An ns.length cn), (17, .slice An 8 cn), (18, .pointer (some ⟨g1, 20, none⟩))])) (by kernel_rfl) (Eq.trans (b := (do Instr.storeAt 27 (.pointer (some ⟨g1, 20, none⟩)) (.slice An 8 cn); pure Next.skip : Sem Next).run Try.prog W5) (by kernel_rfl) (st_unit hr)) (by kernel_rfl) ?_
      refine wpList_nil ?_
      refine wp_seq ?_
      refine wp_seq ?_
      by_cases hx : (xs.length : Int) > 12
      · skip
        refine wp_region_list ?_
        refine skp (.pointer (some ⟨g1, 15, none⟩)) ?_
        refine skp (.pointer (some ⟨g1, 18, none⟩)) ?_
        refine se (a' := (up (tw_b13 t xs bs ns As cs Ab cb An cn g1 g3) [(20, .pointer (some ⟨g1, 18, none⟩)), (21, .slice As xs.length cs)])) (.slice As xs.length cs) (ev1 hW 1 18 Try.underlying27) ?_
        refine skp (.int .i64 (xs.length : Int)) ?_
        refine se (a' := (up (tw_b13 t xs bs ns As cs Ab cb An cn g1 g3) [(20, .pointer (some ⟨g1, 18, none⟩)), (21, .slice As xs.length cs), (22, .int .i64 (xs.length : Int)), (23, .bool true)])) (.bool true) (Eq.trans (b := .ok (.value (.bool (decide (((xs.length : Int) : Int) > 12)))) W6) (by kernel_rfl) (st_ok (decide_eq_true (by omega)))) ?_
        refine wpList_nil ?_
        refine wp_cond (t := true) (by kernel_rfl) ?_
        refine wp_region_list ?_
        refine skp (.pointer (some ⟨g1, 15, none⟩)) ?_
        refine skp (.pointer (some ⟨g1, 18, none⟩)) ?_
        refine se (a' := (up (tw_b15 t xs bs ns As cs Ab cb An cn g1 g3) [(26, .slice As xs.length cs)])) (.slice As xs.length cs) (ev1 hW 1 18 Try.underlying27) ?_
        refine sep (.slice As 12 cs) (Eq.trans (b := (do pure (Next.value (← Instr.sliceAt 27 (.slice As xs.length cs) none (some (.int .i64 ((12 : Nat) : Int))) none)) : Sem Next).run Try.prog W6) (by kernel_rfl) (st_val (sl_cut Try.underlying27 (Classical.choose_spec inf2) 12 (by omega) hrc.1 W6))) ?_
        refine skp (.pointer (some ⟨g1, 15, none⟩)) ?_
        refine sk (a' := (up (tw_b15 t xs bs ns As cs Ab cb An cn g1 g3) [(26, .slice As xs.length cs), (27, .slice As 12 cs), (28, .pointer (some ⟨g1, 15, none⟩)), (29, .pointer (some ⟨g1, 18, none⟩))])) (.pointer (some ⟨g1, 18, none⟩)) ?_
        obtain ⟨W7, hr, hW, hF⟩ := hW.store1 (P := Try.prog) (o := 18) (cs' := (tw_c4 t As cs Ab cb An cn)) (L' := [(g3, 32, tw_c1), (g1, 32, (tw_c4 t As cs Ab cb An cn))]) 1 rfl (.slice As 12 cs) rfl (Nat.le_of_ble_eq_true rfl) (by rfl) rfl 27 (by kernel_rfl)
        refine st_none (w' := W7) (a' := (up (tw_b15 t xs bs ns As cs Ab cb An cn g1 g3) [(26, .slice As xs.length cs), (27, .slice As 12 cs), (28, .pointer (some ⟨g1, 15, none⟩)), (29, .pointer (some ⟨g1, 18, none⟩))])) (by kernel_rfl) (Eq.trans (b := (do Instr.storeAt 27 (.pointer (some ⟨g1, 18, none⟩)) (.slice As 12 cs); pure Next.skip : Sem Next).run Try.prog W6) (by kernel_rfl) (st_unit hr)) (by kernel_rfl) ?_
        refine wpList_nil ?_
        refine wp_seq ?_
        refine wp_region_list ?_
        refine se (a' := (up (tw_b15 t xs bs ns As cs Ab cb An cn g1 g3) [(26, .slice As xs.length cs), (27, .slice As 12 cs), (28, .pointer (some ⟨g1, 15, none⟩)), (29, .pointer (some ⟨g1, 18, none⟩)), (30, .agg (tw_c4 t As cs Ab cb An cn))])) (.agg (tw_c4 t As cs Ab cb An cn)) (evA hW 1 0 Try.underlying32) ?_
        obtain ⟨W8, hr, hW, hF⟩ := hW.storeN (P := Try.prog) (o := 0) (cs' := (tw_c4 t As cs Ab cb An cn)) (L' := [(g3, 32, (tw_c4 t As cs Ab cb An cn)), (g1, 32, (tw_c4 t As cs Ab cb An cn))]) 0 rfl (tw_c4 t As cs Ab cb An cn) (by kernel_rfl) (Nat.le_of_ble_eq_true rfl) (by kernel_rfl) rfl 32 (by kernel_rfl)
        refine st_none (w' := W8) (a' := (up (tw_b15 t xs bs ns As cs Ab cb An cn g1 g3) [(26, .slice As xs.length cs), (27, .slice As 12 cs), (28, .pointer (some ⟨g1, 15, none⟩)), (29, .pointer (some ⟨g1, 18, none⟩)), (30, .agg (tw_c4 t As cs Ab cb An cn))])) (by kernel_rfl) (Eq.trans (b := (do Instr.storeAt 32 (.pointer (some ⟨g3, 0, none⟩)) (.agg (tw_c4 t As cs Ab cb An cn)); pure Next.skip : Sem Next).run Try.prog W7) (by kernel_rfl) (st_unit hr)) (by kernel_rfl) ?_
        refine wpList_nil ?_
        refine wp_ret ?_
        (try simp only [Exit.then, Exit.inBlock])
        change bodyPost Try.prog Try.f10 _ .ret _ _
        refine bodyPost_ret (results_single rfl (.cell g3 32 _ (0, 0) _ (by kernel_rfl) (hW.blk 0 _ _ _ rfl).1 Try.underlying32 rfl (by kernel_rfl) .nil)) rfl ?_
        have e1 : (xs.take 12).length = 12 := by rw [List.length_take]; omega
        have e2 : (bs.take 12).length = 12 := by rw [List.length_take]; omega
        have e3 : (ns.take 8).length = 8 := by rw [List.length_take]; omega
        rw [e1, e2, e3]
        exact ⟨rfl, hW.below⟩
      · skip
        refine wp_region_list ?_
        refine skp (.pointer (some ⟨g1, 15, none⟩)) ?_
        refine skp (.pointer (some ⟨g1, 18, none⟩)) ?_
        refine se (a' := (up (tw_b13 t xs bs ns As cs Ab cb An cn g1 g3) [(20, .pointer (some ⟨g1, 18, none⟩)), (21, .slice As xs.length cs)])) (.slice As xs.length cs) (ev1 hW 1 18 Try.underlying27) ?_
        refine skp (.int .i64 (xs.length : Int)) ?_
        refine se (a' := (up (tw_b13 t xs bs ns As cs Ab cb An cn g1 g3) [(20, .pointer (some ⟨g1, 18, none⟩)), (21, .slice As xs.length cs), (22, .int .i64 (xs.length : Int)), (23, .bool false)])) (.bool false) (Eq.trans (b := .ok (.value (.bool (decide (((xs.length : Int) : Int) > 12)))) W6) (by kernel_rfl) (st_ok (decide_eq_false (by omega)))) ?_
        refine wpList_nil ?_
        refine wp_cond (t := false) (by kernel_rfl) ?_
        refine wp_skip ?_
        refine wp_seq ?_
        refine wp_region_list ?_
        refine se (a' := (up (tw_b13 t xs bs ns As cs Ab cb An cn g1 g3) [(20, .pointer (some ⟨g1, 18, none⟩)), (21, .slice As xs.length cs), (22, .int .i64 (xs.length : Int)), (23, .bool false), (30, .agg (tw_c3 t xs As cs Ab cb An cn))])) (.agg (tw_c3 t xs As cs Ab cb An cn)) (evA hW 1 0 Try.underlying32) ?_
        obtain ⟨W7, hr, hW, hF⟩ := hW.storeN (P := Try.prog) (o := 0) (cs' := (tw_c3 t xs As cs Ab cb An cn)) (L' := [(g3, 32, (tw_c3 t xs As cs Ab cb An cn)), (g1, 32, (tw_c3 t xs As cs Ab cb An cn))]) 0 rfl (tw_c3 t xs As cs Ab cb An cn) (by kernel_rfl) (Nat.le_of_ble_eq_true rfl) (by kernel_rfl) rfl 32 (by kernel_rfl)
        refine st_none (w' := W7) (a' := (up (tw_b13 t xs bs ns As cs Ab cb An cn g1 g3) [(20, .pointer (some ⟨g1, 18, none⟩)), (21, .slice As xs.length cs), (22, .int .i64 (xs.length : Int)), (23, .bool false), (30, .agg (tw_c3 t xs As cs Ab cb An cn))])) (by kernel_rfl) (Eq.trans (b := (do Instr.storeAt 32 (.pointer (some ⟨g3, 0, none⟩)) (.agg (tw_c3 t xs As cs Ab cb An cn)); pure Next.skip : Sem Next).run Try.prog W6) (by kernel_rfl) (st_unit hr)) (by kernel_rfl) ?_
        refine wpList_nil ?_
        refine wp_ret ?_
        (try simp only [Exit.then, Exit.inBlock])
        change bodyPost Try.prog Try.f10 _ .ret _ _
        refine bodyPost_ret (results_single rfl (.cell g3 32 _ (0, 0) _ (by kernel_rfl) (hW.blk 0 _ _ _ rfl).1 Try.underlying32 rfl (by kernel_rfl) .nil)) rfl ?_
        have e1 : (xs.take 12).length = xs.length := by rw [List.length_take]; omega
        have e2 : (bs.take 12).length = 12 := by rw [List.length_take]; omega
        have e3 : (ns.take 8).length = 8 := by rw [List.length_take]; omega
        rw [e1, e2, e3]
        exact ⟨rfl, hW.below⟩
    · skip
      refine wp_region_list ?_
      refine skp (.pointer (some ⟨g1, 20, none⟩)) ?_
      refine sep (.slice An ns.length cn) (ev1 hW 1 20 Try.underlying27) ?_
      refine sk (a' := (up (tw_b9 t xs bs ns As cs Ab cb An cn g1 g3) [])) (.int .i64 (ns.length : Int)) ?_
      refine se (a' := (up (tw_b9 t xs bs ns As cs Ab cb An cn g1 g3) [(14, .bool false)])) (.bool false) (Eq.trans (b := .ok (.value (.bool (decide (((ns.length : Int) : Int) > 8)))) W5) (by kernel_rfl) (st_ok (decide_eq_false (by omega)))) ?_
      refine wpList_nil ?_
      refine wp_cond (t := false) (by kernel_rfl) ?_
      refine wp_skip ?_
      refine wp_seq ?_
      refine wp_seq ?_
      by_cases hx : (xs.length : Int) > 12
      · skip
        refine wp_region_list ?_
        refine skp (.pointer (some ⟨g1, 15, none⟩)) ?_
        refine skp (.pointer (some ⟨g1, 18, none⟩)) ?_
        refine se (a' := (up (tw_b9 t xs bs ns As cs Ab cb An cn g1 g3) [(14, .bool false), (19, .pointer (some ⟨g1, 15, none⟩)), (20, .pointer (some ⟨g1, 18, none⟩)), (21, .slice As xs.length cs)])) (.slice As xs.length cs) (ev1 hW 1 18 Try.underlying27) ?_
        refine skp (.int .i64 (xs.length : Int)) ?_
        refine se (a' := (up (tw_b19 t xs bs ns As cs Ab cb An cn g1 g3) [])) (.bool true) (Eq.trans (b := .ok (.value (.bool (decide (((xs.length : Int) : Int) > 12)))) W5) (by kernel_rfl) (st_ok (decide_eq_true (by omega)))) ?_
        refine wpList_nil ?_
        refine wp_cond (t := true) (by kernel_rfl) ?_
        refine wp_region_list ?_
        refine skp (.pointer (some ⟨g1, 15, none⟩)) ?_
        refine skp (.pointer (some ⟨g1, 18, none⟩)) ?_
        refine se (a' := (up (tw_b19 t xs bs ns As cs Ab cb An cn g1 g3) [(24, .pointer (some ⟨g1, 15, none⟩)), (25, .pointer (some ⟨g1, 18, none⟩)), (26, .slice As xs.length cs)])) (.slice As xs.length cs) (ev1 hW 1 18 Try.underlying27) ?_
        refine sep (.slice As 12 cs) (Eq.trans (b := (do pure (Next.value (← Instr.sliceAt 27 (.slice As xs.length cs) none (some (.int .i64 ((12 : Nat) : Int))) none)) : Sem Next).run Try.prog W5) (by kernel_rfl) (st_val (sl_cut Try.underlying27 (Classical.choose_spec inf2) 12 (by omega) hrc.1 W5))) ?_
        refine skp (.pointer (some ⟨g1, 15, none⟩)) ?_
        refine sk (a' := (up (tw_b21 t xs bs ns As cs Ab cb An cn g1 g3) [])) (.pointer (some ⟨g1, 18, none⟩)) ?_
        obtain ⟨W6, hr, hW, hF⟩ := hW.store1 (P := Try.prog) (o := 18) (cs' := (tw_c5 t ns As cs Ab cb An cn)) (L' := [(g3, 32, tw_c1), (g1, 32, (tw_c5 t ns As cs Ab cb An cn))]) 1 rfl (.slice As 12 cs) rfl (Nat.le_of_ble_eq_true rfl) (by rfl) rfl 27 (by kernel_rfl)
        refine st_none (w' := W6) (a' := (up (tw_b21 t xs bs ns As cs Ab cb An cn g1 g3) [])) (by kernel_rfl) (Eq.trans (b := (do Instr.storeAt 27 (.pointer (some ⟨g1, 18, none⟩)) (.slice As 12 cs); pure Next.skip : Sem Next).run Try.prog W5) (by kernel_rfl) (st_unit hr)) (by kernel_rfl) ?_
        refine wpList_nil ?_
        refine wp_seq ?_
        refine wp_region_list ?_
        refine se (a' := (up (tw_b21 t xs bs ns As cs Ab cb An cn g1 g3) [(30, .agg (tw_c5 t ns As cs Ab cb An cn))])) (.agg (tw_c5 t ns As cs Ab cb An cn)) (evA hW 1 0 Try.underlying32) ?_
        obtain ⟨W7, hr, hW, hF⟩ := hW.storeN (P := Try.prog) (o := 0) (cs' := (tw_c5 t ns As cs Ab cb An cn)) (L' := [(g3, 32, (tw_c5 t ns As cs Ab cb An cn)), (g1, 32, (tw_c5 t ns As cs Ab cb An cn))]) 0 rfl (tw_c5 t ns As cs Ab cb An cn) (by kernel_rfl) (Nat.le_of_ble_eq_true rfl) (by kernel_rfl) rfl 32 (by kernel_rfl)
        refine st_none (w' := W7) (a' := (up (tw_b21 t xs bs ns As cs Ab cb An cn g1 g3) [(30, .agg (tw_c5 t ns As cs Ab cb An cn))])) (by kernel_rfl) (Eq.trans (b := (do Instr.storeAt 32 (.pointer (some ⟨g3, 0, none⟩)) (.agg (tw_c5 t ns As cs Ab cb An cn)); pure Next.skip : Sem Next).run Try.prog W6) (by kernel_rfl) (st_unit hr)) (by kernel_rfl) ?_
        refine wpList_nil ?_
        refine wp_ret ?_
        (try simp only [Exit.then, Exit.inBlock])
        change bodyPost Try.prog Try.f10 _ .ret _ _
        refine bodyPost_ret (results_single rfl (.cell g3 32 _ (0, 0) _ (by kernel_rfl) (hW.blk 0 _ _ _ rfl).1 Try.underlying32 rfl (by kernel_rfl) .nil)) rfl ?_
        have e1 : (xs.take 12).length = 12 := by rw [List.length_take]; omega
        have e2 : (bs.take 12).length = 12 := by rw [List.length_take]; omega
        have e3 : (ns.take 8).length = ns.length := by rw [List.length_take]; omega
        rw [e1, e2, e3]
        exact ⟨rfl, hW.below⟩
      · skip
        refine wp_region_list ?_
        refine skp (.pointer (some ⟨g1, 15, none⟩)) ?_
        refine skp (.pointer (some ⟨g1, 18, none⟩)) ?_
        refine se (a' := (up (tw_b9 t xs bs ns As cs Ab cb An cn g1 g3) [(14, .bool false), (19, .pointer (some ⟨g1, 15, none⟩)), (20, .pointer (some ⟨g1, 18, none⟩)), (21, .slice As xs.length cs)])) (.slice As xs.length cs) (ev1 hW 1 18 Try.underlying27) ?_
        refine skp (.int .i64 (xs.length : Int)) ?_
        refine se (a' := (up (tw_b24 t xs bs ns As cs Ab cb An cn g1 g3) [])) (.bool false) (Eq.trans (b := .ok (.value (.bool (decide (((xs.length : Int) : Int) > 12)))) W5) (by kernel_rfl) (st_ok (decide_eq_false (by omega)))) ?_
        refine wpList_nil ?_
        refine wp_cond (t := false) (by kernel_rfl) ?_
        refine wp_skip ?_
        refine wp_seq ?_
        refine wp_region_list ?_
        refine se (a' := (up (tw_b24 t xs bs ns As cs Ab cb An cn g1 g3) [(30, .agg (tw_c2 t xs ns As cs Ab cb An cn))])) (.agg (tw_c2 t xs ns As cs Ab cb An cn)) (evA hW 1 0 Try.underlying32) ?_
        obtain ⟨W6, hr, hW, hF⟩ := hW.storeN (P := Try.prog) (o := 0) (cs' := (tw_c2 t xs ns As cs Ab cb An cn)) (L' := [(g3, 32, (tw_c2 t xs ns As cs Ab cb An cn)), (g1, 32, (tw_c2 t xs ns As cs Ab cb An cn))]) 0 rfl (tw_c2 t xs ns As cs Ab cb An cn) (by kernel_rfl) (Nat.le_of_ble_eq_true rfl) (by kernel_rfl) rfl 32 (by kernel_rfl)
        refine st_none (w' := W6) (a' := (up (tw_b24 t xs bs ns As cs Ab cb An cn g1 g3) [(30, .agg (tw_c2 t xs ns As cs Ab cb An cn))])) (by kernel_rfl) (Eq.trans (b := (do Instr.storeAt 32 (.pointer (some ⟨g3, 0, none⟩)) (.agg (tw_c2 t xs ns As cs Ab cb An cn)); pure Next.skip : Sem Next).run Try.prog W5) (by kernel_rfl) (st_unit hr)) (by kernel_rfl) ?_
        refine wpList_nil ?_
        refine wp_ret ?_
        (try simp only [Exit.then, Exit.inBlock])
        change bodyPost Try.prog Try.f10 _ .ret _ _
        refine bodyPost_ret (results_single rfl (.cell g3 32 _ (0, 0) _ (by kernel_rfl) (hW.blk 0 _ _ _ rfl).1 Try.underlying32 rfl (by kernel_rfl) .nil)) rfl ?_
        have e1 : (xs.take 12).length = xs.length := by rw [List.length_take]; omega
        have e2 : (bs.take 12).length = 12 := by rw [List.length_take]; omega
        have e3 : (ns.take 8).length = ns.length := by rw [List.length_take]; omega
        rw [e1, e2, e3]
        exact ⟨rfl, hW.below⟩
  · skip
    refine wp_region_list ?_
    refine skp (.pointer (some ⟨g1, 19, none⟩)) ?_
    refine sep (.slice Ab bs.length cb) (ev1 hW 1 19 Try.underlying30) ?_
    refine sk (a' := (up (tw_b3 t xs bs ns As cs Ab cb An cn g1) [(2, .pointer (some ⟨g3, 0, none⟩)), (3, .pointer (some ⟨g1, 19, none⟩)), (4, .slice Ab bs.length cb), (5, .int .i64 (bs.length : Int))])) (.int .i64 (bs.length : Int)) ?_
    refine se (a' := (up (tw_b3 t xs bs ns As cs Ab cb An cn g1) [(2, .pointer (some ⟨g3, 0, none⟩)), (3, .pointer (some ⟨g1, 19, none⟩)), (4, .slice Ab bs.length cb), (5, .int .i64 (bs.length : Int)), (6, .bool false)])) (.bool false) (Eq.trans (b := .ok (.value (.bool (decide (((bs.length : Int) : Int) > 12)))) W4) (by kernel_rfl) (st_ok (decide_eq_false (by omega)))) ?_
    refine wpList_nil ?_
    refine wp_cond (t := false) (by kernel_rfl) ?_
    refine wp_skip ?_
    refine wp_seq ?_
    refine wp_seq ?_
    by_cases hn : (ns.length : Int) > 8
    · skip
      refine wp_region_list ?_
      refine skp (.pointer (some ⟨g1, 20, none⟩)) ?_
      refine sep (.slice An ns.length cn) (ev1 hW 1 20 Try.underlying27) ?_
      refine sk (a' := (up (tw_b26 t xs bs ns As cs Ab cb An cn g1 g3) [(12, .slice An ns.length cn), (13, .int .i64 (ns.length : Int))])) (.int .i64 (ns.length : Int)) ?_
      refine se (a' := (up (tw_b26 t xs bs ns As cs Ab cb An cn g1 g3) [(12, .slice An ns.length cn), (13, .int .i64 (ns.length : Int)), (14, .bool true)])) (.bool true) (Eq.trans (b := .ok (.value (.bool (decide (((ns.length : Int) : Int) > 8)))) W4) (by kernel_rfl) (st_ok (decide_eq_true (by omega)))) ?_
      refine wpList_nil ?_
      refine wp_cond (t := true) (by kernel_rfl) ?_
      refine wp_region_list ?_
      refine skp (.pointer (some ⟨g1, 20, none⟩)) ?_
      refine sep (.slice An ns.length cn) (ev1 hW 1 20 Try.underlying27) ?_
      refine se (a' := (up (tw_b29 t xs bs ns As cs Ab cb An cn g1 g3) [])) (.slice An 8 cn) (Eq.trans (b := (do pure (Next.value (← Instr.sliceAt 27 (.slice An ns.length cn) none (some (.int .i64 ((8 : Nat) : Int))) none)) : Sem Next).run Try.prog W4) (by kernel_rfl) (st_val (sl_cut Try.underlying27 (Classical.choose_spec inf2) 8 (by omega) hrc.2.2 W4))) ?_
      refine sk (a' := (up (tw_b29 t xs bs ns As cs Ab cb An cn g1 g3) [(18, .pointer (some ⟨g1, 20, none⟩))])) (.pointer (some ⟨g1, 20, none⟩)) ?_
      obtain ⟨W5, hr, hW, hF⟩ := hW.store1 (P := Try.prog) (o := 20) (cs' := (tw_c6 t xs bs As cs Ab cb An cn)) (L' := [(g3, 32, tw_c1), (g1, 32, (tw_c6 t xs bs As cs Ab cb An cn))]) 1 rfl (.slice An 8 cn) rfl (Nat.le_of_ble_eq_true rfl) (by rfl) rfl 27 (by kernel_rfl)
      refine st_none (w' := W5) (a' := (up (tw_b29 t xs bs ns As cs Ab cb An cn g1 g3) [(18, .pointer (some ⟨g1, 20, none⟩))])) (by kernel_rfl) (Eq.trans (b := (do Instr.storeAt 27 (.pointer (some ⟨g1, 20, none⟩)) (.slice An 8 cn); pure Next.skip : Sem Next).run Try.prog W4) (by kernel_rfl) (st_unit hr)) (by kernel_rfl) ?_
      refine wpList_nil ?_
      refine wp_seq ?_
      refine wp_seq ?_
      by_cases hx : (xs.length : Int) > 12
      · skip
        refine wp_region_list ?_
        refine skp (.pointer (some ⟨g1, 15, none⟩)) ?_
        refine skp (.pointer (some ⟨g1, 18, none⟩)) ?_
        refine se (a' := (up (tw_b29 t xs bs ns As cs Ab cb An cn g1 g3) [(18, .pointer (some ⟨g1, 20, none⟩)), (19, .pointer (some ⟨g1, 15, none⟩)), (20, .pointer (some ⟨g1, 18, none⟩)), (21, .slice As xs.length cs)])) (.slice As xs.length cs) (ev1 hW 1 18 Try.underlying27) ?_
        refine skp (.int .i64 (xs.length : Int)) ?_
        refine se (a' := (up (tw_b32 t xs bs ns As cs Ab cb An cn g1 g3) [])) (.bool true) (Eq.trans (b := .ok (.value (.bool (decide (((xs.length : Int) : Int) > 12)))) W5) (by kernel_rfl) (st_ok (decide_eq_true (by omega)))) ?_
        refine wpList_nil ?_
        refine wp_cond (t := true) (by kernel_rfl) ?_
        refine wp_region_list ?_
        refine skp (.pointer (some ⟨g1, 15, none⟩)) ?_
        refine skp (.pointer (some ⟨g1, 18, none⟩)) ?_
        refine se (a' := (up (tw_b32 t xs bs ns As cs Ab cb An cn g1 g3) [(24, .pointer (some ⟨g1, 15, none⟩)), (25, .pointer (some ⟨g1, 18, none⟩)), (26, .slice As xs.length cs)])) (.slice As xs.length cs) (ev1 hW 1 18 Try.underlying27) ?_
        refine sep (.slice As 12 cs) (Eq.trans (b := (do pure (Next.value (← Instr.sliceAt 27 (.slice As xs.length cs) none (some (.int .i64 ((12 : Nat) : Int))) none)) : Sem Next).run Try.prog W5) (by kernel_rfl) (st_val (sl_cut Try.underlying27 (Classical.choose_spec inf2) 12 (by omega) hrc.1 W5))) ?_
        refine skp (.pointer (some ⟨g1, 15, none⟩)) ?_
        refine sk (a' := (up (tw_b34 t xs bs ns As cs Ab cb An cn g1 g3) [])) (.pointer (some ⟨g1, 18, none⟩)) ?_
        obtain ⟨W6, hr, hW, hF⟩ := hW.store1 (P := Try.prog) (o := 18) (cs' := (tw_c7 t bs As cs Ab cb An cn)) (L' := [(g3, 32, tw_c1), (g1, 32, (tw_c7 t bs As cs Ab cb An cn))]) 1 rfl (.slice As 12 cs) rfl (Nat.le_of_ble_eq_true rfl) (by rfl) rfl 27 (by kernel_rfl)
        refine st_none (w' := W6) (a' := (up (tw_b34 t xs bs ns As cs Ab cb An cn g1 g3) [])) (by kernel_rfl) (Eq.trans (b := (do Instr.storeAt 27 (.pointer (some ⟨g1, 18, none⟩)) (.slice As 12 cs); pure Next.skip : Sem Next).run Try.prog W5) (by kernel_rfl) (st_unit hr)) (by kernel_rfl) ?_
        refine wpList_nil ?_
        refine wp_seq ?_
        refine wp_region_list ?_
        refine se (a' := (up (tw_b34 t xs bs ns As cs Ab cb An cn g1 g3) [(30, .agg (tw_c7 t bs As cs Ab cb An cn))])) (.agg (tw_c7 t bs As cs Ab cb An cn)) (evA hW 1 0 Try.underlying32) ?_
        obtain ⟨W7, hr, hW, hF⟩ := hW.storeN (P := Try.prog) (o := 0) (cs' := (tw_c7 t bs As cs Ab cb An cn)) (L' := [(g3, 32, (tw_c7 t bs As cs Ab cb An cn)), (g1, 32, (tw_c7 t bs As cs Ab cb An cn))]) 0 rfl (tw_c7 t bs As cs Ab cb An cn) (by kernel_rfl) (Nat.le_of_ble_eq_true rfl) (by kernel_rfl) rfl 32 (by kernel_rfl)
        refine st_none (w' := W7) (a' := (up (tw_b34 t xs bs ns As cs Ab cb An cn g1 g3) [(30, .agg (tw_c7 t bs As cs Ab cb An cn))])) (by kernel_rfl) (Eq.trans (b := (do Instr.storeAt 32 (.pointer (some ⟨g3, 0, none⟩)) (.agg (tw_c7 t bs As cs Ab cb An cn)); pure Next.skip : Sem Next).run Try.prog W6) (by kernel_rfl) (st_unit hr)) (by kernel_rfl) ?_
        refine wpList_nil ?_
        refine wp_ret ?_
        (try simp only [Exit.then, Exit.inBlock])
        change bodyPost Try.prog Try.f10 _ .ret _ _
        refine bodyPost_ret (results_single rfl (.cell g3 32 _ (0, 0) _ (by kernel_rfl) (hW.blk 0 _ _ _ rfl).1 Try.underlying32 rfl (by kernel_rfl) .nil)) rfl ?_
        have e1 : (xs.take 12).length = 12 := by rw [List.length_take]; omega
        have e2 : (bs.take 12).length = bs.length := by rw [List.length_take]; omega
        have e3 : (ns.take 8).length = 8 := by rw [List.length_take]; omega
        rw [e1, e2, e3]
        exact ⟨rfl, hW.below⟩
      · skip
        refine wp_region_list ?_
        refine skp (.pointer (some ⟨g1, 15, none⟩)) ?_
        refine skp (.pointer (some ⟨g1, 18, none⟩)) ?_
        refine se (a' := (up (tw_b29 t xs bs ns As cs Ab cb An cn g1 g3) [(18, .pointer (some ⟨g1, 20, none⟩)), (19, .pointer (some ⟨g1, 15, none⟩)), (20, .pointer (some ⟨g1, 18, none⟩)), (21, .slice As xs.length cs)])) (.slice As xs.length cs) (ev1 hW 1 18 Try.underlying27) ?_
        refine skp (.int .i64 (xs.length : Int)) ?_
        refine se (a' := (up (tw_b37 t xs bs ns As cs Ab cb An cn g1 g3) [])) (.bool false) (Eq.trans (b := .ok (.value (.bool (decide (((xs.length : Int) : Int) > 12)))) W5) (by kernel_rfl) (st_ok (decide_eq_false (by omega)))) ?_
        refine wpList_nil ?_
        refine wp_cond (t := false) (by kernel_rfl) ?_
        refine wp_skip ?_
        refine wp_seq ?_
        refine wp_region_list ?_
        refine se (a' := (up (tw_b37 t xs bs ns As cs Ab cb An cn g1 g3) [(30, .agg (tw_c6 t xs bs As cs Ab cb An cn))])) (.agg (tw_c6 t xs bs As cs Ab cb An cn)) (evA hW 1 0 Try.underlying32) ?_
        obtain ⟨W6, hr, hW, hF⟩ := hW.storeN (P := Try.prog) (o := 0) (cs' := (tw_c6 t xs bs As cs Ab cb An cn)) (L' := [(g3, 32, (tw_c6 t xs bs As cs Ab cb An cn)), (g1, 32, (tw_c6 t xs bs As cs Ab cb An cn))]) 0 rfl (tw_c6 t xs bs As cs Ab cb An cn) (by kernel_rfl) (Nat.le_of_ble_eq_true rfl) (by kernel_rfl) rfl 32 (by kernel_rfl)
        refine st_none (w' := W6) (a' := (up (tw_b37 t xs bs ns As cs Ab cb An cn g1 g3) [(30, .agg (tw_c6 t xs bs As cs Ab cb An cn))])) (by kernel_rfl) (Eq.trans (b := (do Instr.storeAt 32 (.pointer (some ⟨g3, 0, none⟩)) (.agg (tw_c6 t xs bs As cs Ab cb An cn)); pure Next.skip : Sem Next).run Try.prog W5) (by kernel_rfl) (st_unit hr)) (by kernel_rfl) ?_
        refine wpList_nil ?_
        refine wp_ret ?_
        (try simp only [Exit.then, Exit.inBlock])
        change bodyPost Try.prog Try.f10 _ .ret _ _
        refine bodyPost_ret (results_single rfl (.cell g3 32 _ (0, 0) _ (by kernel_rfl) (hW.blk 0 _ _ _ rfl).1 Try.underlying32 rfl (by kernel_rfl) .nil)) rfl ?_
        have e1 : (xs.take 12).length = xs.length := by rw [List.length_take]; omega
        have e2 : (bs.take 12).length = bs.length := by rw [List.length_take]; omega
        have e3 : (ns.take 8).length = 8 := by rw [List.length_take]; omega
        rw [e1, e2, e3]
        exact ⟨rfl, hW.below⟩
    · skip
      refine wp_region_list ?_
      refine skp (.pointer (some ⟨g1, 20, none⟩)) ?_
      refine sep (.slice An ns.length cn) (ev1 hW 1 20 Try.underlying27) ?_
      refine sk (a' := (up (tw_b26 t xs bs ns As cs Ab cb An cn g1 g3) [(12, .slice An ns.length cn), (13, .int .i64 (ns.length : Int))])) (.int .i64 (ns.length : Int)) ?_
      refine se (a' := (up (tw_b26 t xs bs ns As cs Ab cb An cn g1 g3) [(12, .slice An ns.length cn), (13, .int .i64 (ns.length : Int)), (14, .bool false)])) (.bool false) (Eq.trans (b := .ok (.value (.bool (decide (((ns.length : Int) : Int) > 8)))) W4) (by kernel_rfl) (st_ok (decide_eq_false (by omega)))) ?_
      refine wpList_nil ?_
      refine wp_cond (t := false) (by kernel_rfl) ?_
      refine wp_skip ?_
      refine wp_seq ?_
      refine wp_seq ?_
      by_cases hx : (xs.length : Int) > 12
      · skip
        refine wp_region_list ?_
        refine skp (.pointer (some ⟨g1, 15, none⟩)) ?_
        refine skp (.pointer (some ⟨g1, 18, none⟩)) ?_
        refine se (a' := (up (tw_b40 t xs bs ns As cs Ab cb An cn g1 g3) [])) (.slice As xs.length cs) (ev1 hW 1 18 Try.underlying27) ?_
        refine skp (.int .i64 (xs.length : Int)) ?_
        refine se (a' := (up (tw_b40 t xs bs ns As cs Ab cb An cn g1 g3) [(22, .int .i64 (xs.length : Int)), (23, .bool true)])) (.bool true) (Eq.trans (b := .ok (.value (.bool (decide (((xs.length : Int) : Int) > 12)))) W4) (by kernel_rfl) (st_ok (decide_eq_true (by omega)))) ?_
        refine wpList_nil ?_
        refine wp_cond (t := true) (by kernel_rfl) ?_
        refine wp_region_list ?_
        refine skp (.pointer (some ⟨g1, 15, none⟩)) ?_
        refine skp (.pointer (some ⟨g1, 18, none⟩)) ?_
        refine se (a' := (up (tw_b40 t xs bs ns As cs Ab cb An cn g1 g3) [(22, .int .i64 (xs.length : Int)), (23, .bool true), (24, .pointer (some ⟨g1, 15, none⟩)), (25, .pointer (some ⟨g1, 18, none⟩)), (26, .slice As xs.length cs)])) (.slice As xs.length cs) (ev1 hW 1 18 Try.underlying27) ?_
        refine sep (.slice As 12 cs) (Eq.trans (b := (do pure (Next.value (← Instr.sliceAt 27 (.slice As xs.length cs) none (some (.int .i64 ((12 : Nat) : Int))) none)) : Sem Next).run Try.prog W4) (by kernel_rfl) (st_val (sl_cut Try.underlying27 (Classical.choose_spec inf2) 12 (by omega) hrc.1 W4))) ?_
        refine skp (.pointer (some ⟨g1, 15, none⟩)) ?_
        refine sk (a' := (up (tw_b42 t xs bs ns As cs Ab cb An cn g1 g3) [(28, .pointer (some ⟨g1, 15, none⟩)), (29, .pointer (some ⟨g1, 18, none⟩))])) (.pointer (some ⟨g1, 18, none⟩)) ?_
        obtain ⟨W5, hr, hW, hF⟩ := hW.store1 (P := Try.prog) (o := 18) (cs' := (tw_c8 t bs ns As cs Ab cb An cn)) (L' := [(g3, 32, tw_c1), (g1, 32, (tw_c8 t bs ns As cs Ab cb An cn))]) 1 rfl (.slice As 12 cs) rfl (Nat.le_of_ble_eq_true rfl) (by rfl) rfl 27 (by kernel_rfl)
        refine st_none (w' := W5) (a' := (up (tw_b42 t xs bs ns As cs Ab cb An cn g1 g3) [(28, .pointer (some ⟨g1, 15, none⟩)), (29, .pointer (some ⟨g1, 18, none⟩))])) (by kernel_rfl) (Eq.trans (b := (do Instr.storeAt 27 (.pointer (some ⟨g1, 18, none⟩)) (.slice As 12 cs); pure Next.skip : Sem Next).run Try.prog W4) (by kernel_rfl) (st_unit hr)) (by kernel_rfl) ?_
        refine wpList_nil ?_
        refine wp_seq ?_
        refine wp_region_list ?_
        refine se (a' := (up (tw_b42 t xs bs ns As cs Ab cb An cn g1 g3) [(28, .pointer (some ⟨g1, 15, none⟩)), (29, .pointer (some ⟨g1, 18, none⟩)), (30, .agg (tw_c8 t bs ns As cs Ab cb An cn))])) (.agg (tw_c8 t bs ns As cs Ab cb An cn)) (evA hW 1 0 Try.underlying32) ?_
        obtain ⟨W6, hr, hW, hF⟩ := hW.storeN (P := Try.prog) (o := 0) (cs' := (tw_c8 t bs ns As cs Ab cb An cn)) (L' := [(g3, 32, (tw_c8 t bs ns As cs Ab cb An cn)), (g1, 32, (tw_c8 t bs ns As cs Ab cb An cn))]) 0 rfl (tw_c8 t bs ns As cs Ab cb An cn) (by kernel_rfl) (Nat.le_of_ble_eq_true rfl) (by kernel_rfl) rfl 32 (by kernel_rfl)
        refine st_none (w' := W6) (a' := (up (tw_b42 t xs bs ns As cs Ab cb An cn g1 g3) [(28, .pointer (some ⟨g1, 15, none⟩)), (29, .pointer (some ⟨g1, 18, none⟩)), (30, .agg (tw_c8 t bs ns As cs Ab cb An cn))])) (by kernel_rfl) (Eq.trans (b := (do Instr.storeAt 32 (.pointer (some ⟨g3, 0, none⟩)) (.agg (tw_c8 t bs ns As cs Ab cb An cn)); pure Next.skip : Sem Next).run Try.prog W5) (by kernel_rfl) (st_unit hr)) (by kernel_rfl) ?_
        refine wpList_nil ?_
        refine wp_ret ?_
        (try simp only [Exit.then, Exit.inBlock])
        change bodyPost Try.prog Try.f10 _ .ret _ _
        refine bodyPost_ret (results_single rfl (.cell g3 32 _ (0, 0) _ (by kernel_rfl) (hW.blk 0 _ _ _ rfl).1 Try.underlying32 rfl (by kernel_rfl) .nil)) rfl ?_
        have e1 : (xs.take 12).length = 12 := by rw [List.length_take]; omega
        have e2 : (bs.take 12).length = bs.length := by rw [List.length_take]; omega
        have e3 : (ns.take 8).length = ns.length := by rw [List.length_take]; omega
        rw [e1, e2, e3]
        exact ⟨rfl, hW.below⟩
      · skip
        refine wp_region_list ?_
        refine skp (.pointer (some ⟨g1, 15, none⟩)) ?_
        refine skp (.pointer (some ⟨g1, 18, none⟩)) ?_
        refine se (a' := (up (tw_b40 t xs bs ns As cs Ab cb An cn g1 g3) [])) (.slice As xs.length cs) (ev1 hW 1 18 Try.underlying27) ?_
        refine skp (.int .i64 (xs.length : Int)) ?_
        refine se (a' := (up (tw_b40 t xs bs ns As cs Ab cb An cn g1 g3) [(22, .int .i64 (xs.length : Int)), (23, .bool false)])) (.bool false) (Eq.trans (b := .ok (.value (.bool (decide (((xs.length : Int) : Int) > 12)))) W4) (by kernel_rfl) (st_ok (decide_eq_false (by omega)))) ?_
        refine wpList_nil ?_
        refine wp_cond (t := false) (by kernel_rfl) ?_
        refine wp_skip ?_
        refine wp_seq ?_
        refine wp_region_list ?_
        refine se (a' := (up (tw_b40 t xs bs ns As cs Ab cb An cn g1 g3) [(22, .int .i64 (xs.length : Int)), (23, .bool false), (30, .agg (tw_c0 t xs bs ns As cs Ab cb An cn))])) (.agg (tw_c0 t xs bs ns As cs Ab cb An cn)) (evA hW 1 0 Try.underlying32) ?_
        obtain ⟨W5, hr, hW, hF⟩ := hW.storeN (P := Try.prog) (o := 0) (cs' := (tw_c0 t xs bs ns As cs Ab cb An cn)) (L' := [(g3, 32, (tw_c0 t xs bs ns As cs Ab cb An cn)), (g1, 32, (tw_c0 t xs bs ns As cs Ab cb An cn))]) 0 rfl (tw_c0 t xs bs ns As cs Ab cb An cn) (by kernel_rfl) (Nat.le_of_ble_eq_true rfl) (by kernel_rfl) rfl 32 (by kernel_rfl)
        refine st_none (w' := W5) (a' := (up (tw_b40 t xs bs ns As cs Ab cb An cn g1 g3) [(22, .int .i64 (xs.length : Int)), (23, .bool false), (30, .agg (tw_c0 t xs bs ns As cs Ab cb An cn))])) (by kernel_rfl) (Eq.trans (b := (do Instr.storeAt 32 (.pointer (some ⟨g3, 0, none⟩)) (.agg (tw_c0 t xs bs ns As cs Ab cb An cn)); pure Next.skip : Sem Next).run Try.prog W4) (by kernel_rfl) (st_unit hr)) (by kernel_rfl) ?_
        refine wpList_nil ?_
        refine wp_ret ?_
        (try simp only [Exit.then, Exit.inBlock])
        change bodyPost Try.prog Try.f10 _ .ret _ _
        refine bodyPost_ret (results_single rfl (.cell g3 32 _ (0, 0) _ (by kernel_rfl) (hW.blk 0 _ _ _ rfl).1 Try.underlying32 rfl (by kernel_rfl) .nil)) rfl ?_
        have e1 : (xs.take 12).length = xs.length := by rw [List.length_take]; omega
        have e2 : (bs.take 12).length = bs.length := by rw [List.length_take]; omega
        have e3 : (ns.take 8).length = ns.length := by rw [List.length_take]; omega
        rw [e1, e2, e3]
        exact ⟨rfl, hW.below⟩
theorem bag3_eq (a b c : Int) (W : World) : (Op.equal 42 (.agg #[.int .i64 a, .int .i64 b, .int .i64 c]) (.agg #[.int .i64 a, .int .i64 b, .int .i64 c])).run Try.prog W = .ok true W := by
  show (Op.equalIn (9998 + 2) 42 _ _).run Try.prog W = _
  go_simp
theorem idx_b42 {ad : Addr} {n c i : Nat} (h1 : i < n) (W : World) : (Instr.indexAt 30 (.slice (some ad) n c) (.int .i64 (i : Int))).run Try.prog W = .ok (.pointer (some (ad.add (i * 3)))) W := by
  have hu : (underlying 30).run Try.prog W = .ok (.slice 42) W := by kernel_rfl
  have hs : (sizeOf 42).run Try.prog W = .ok 3 W := by kernel_rfl
  simp [Instr.indexAt, Sem.run_bind, asIntOf, hu, hs, h1]
structure BagAt (w : World) (ad : Addr) (i : Nat) (a b c : Int) : Prop where
  cell : ∀ (j : Nat) v, [Value.int .i64 a, .int .i64 b, .int .i64 c][j]? = some v → w.cell? ((ad.add (i * 3)).add j) = some v
theorem BagAt.below {w W : World} {ad : Addr} {i : Nat} {a b c : Int} (h : BagAt w ad i a b c) (hb : Below w.heap.size w W) : BagAt W ad i a b c :=
  ⟨fun j v hj => (hb.cell (World.block_lt_of_cell? w _ (h.cell j v hj))).trans (h.cell j v hj)⟩
theorem bag_at {w : World} {A : Option Addr} {l : List S42} (h : Kd.C k42 w A l.length l) {i : Nat} (h1 : i < l.length) : ∃ ad, A = some ad ∧ BagAt w ad i (rd_T42 l i).f0 (rd_T42 l i).f1 (rd_T42 l i).f2 := by
  obtain ⟨ad, cs, e, _, hK, hc0⟩ := Kd.C_get h z42 (i : Int) (by omega) (by omega)
  have hc : ∀ j u, cs[j]? = some u → w.cell? (ad.add ((i : Int).toNat * 3 + j)) = some u := hc0
  obtain rfl := k42_open hK
  exact ⟨ad, e, ⟨fun j v hj => by rw [add_add]; exact hc j v hj⟩⟩
def tq_l0 (A : Option Addr) (A1 : Option Addr) (c : Nat) (c1 : Nat) (l : List S42) : List Value := [.slice A l.length c, .slice A1 l.length c1, zz, zz, .bool false, zz, zz, zz, zz, zz, zz, zz, zz, zz, zz, zz]
def tq_l1 : List Value := [zz, zz, zz, zz, zz, zz, zz, zz, zz, zz]
def tq_b2 (A : Option Addr) (A1 : Option Addr) (c : Nat) (c1 : Nat) (l : List S42) : List Value := (tq_l0 A A1 c c1 l) ++ (tq_l1)
def tq_l3 (A : Option Addr) (A1 : Option Addr) (c : Nat) (c1 : Nat) (l : List S42) : List Value := [.slice A l.length c, .slice A1 l.length c1, zz, zz, .bool false, .int .i64 0, .slice A l.length c, .int .i64 (l.length : Int), .slice A1 l.length c1, .int .i64 (l.length : Int), .bool false, zz, zz, zz, zz, zz]
def tq_b4 (A : Option Addr) (A1 : Option Addr) (c : Nat) (c1 : Nat) (l : List S42) : List Value := (tq_l3 A A1 c c1 l) ++ (tq_l1)
def tq_l5 (A : Option Addr) (A1 : Option Addr) (c : Nat) (c1 : Nat) (l : List S42) (z : Nat → Value) (i : Nat) : List Value := [.slice A l.length c, .slice A1 l.length c1, zz, zz, z 4, .int .i64 (i : Int), .slice A l.length c, .int .i64 (l.length : Int), .slice A1 l.length c1, .int .i64 (l.length : Int), .bool false, z 11, z 12, z 13, z 14, z 15]
def tq_l6 (z : Nat → Value) : List Value := [z 16, z 17, z 18, z 19, z 20, z 21, z 22, z 23, z 24, z 25]
def tq_b7 (A : Option Addr) (A1 : Option Addr) (c : Nat) (c1 : Nat) (l : List S42) (z : Nat → Value) (i : Nat) : List Value := (tq_l5 A A1 c c1 l z i) ++ ((tq_l6 z))
def tq_l8 (c : Nat) (c1 : Nat) (l : List S42) (z : Nat → Value) (i : Nat) (ad : Addr) (ad1 : Addr) : List Value := [.slice (some ad) l.length c, .slice (some ad1) l.length c1, zz, zz, z 4, .int .i64 (i : Int), .slice (some ad) l.length c, .int .i64 (l.length : Int), .slice (some ad1) l.length c1, .int .i64 (l.length : Int), .bool false, .int .i64 (i : Int), z 12, z 13, z 14, z 15]
def tq_b9 (c : Nat) (c1 : Nat) (l : List S42) (z : Nat → Value) (i : Nat) (ad : Addr) (ad1 : Addr) : List Value := (tq_l8 c c1 l z i ad ad1) ++ ((tq_l6 z))
def tq_l10 (c : Nat) (c1 : Nat) (l : List S42) (z : Nat → Value) (i : Nat) (ad : Addr) (ad1 : Addr) : List Value := [.slice (some ad) l.length c, .slice (some ad1) l.length c1, zz, zz, z 4, .int .i64 (i : Int), .slice (some ad) l.length c, .int .i64 (l.length : Int), .slice (some ad1) l.length c1, .int .i64 (l.length : Int), .bool false, .int .i64 (i : Int), .slice (some ad) l.length c, .int .i64 (l.length : Int), .bool true, z 15]
def tq_l11 (c : Nat) (l : List S42) (z : Nat → Value) (i : Nat) (ad : Addr) : List Value := [z 16, .slice (some ad) l.length c, .int .i64 (i : Int), .pointer (some (ad.add (i * 3))), z 20, z 21, z 22, z 23, z 24, z 25]
def tq_b12 (c : Nat) (c1 : Nat) (l : List S42) (z : Nat → Value) (i : Nat) (ad : Addr) (ad1 : Addr) : List Value := (tq_l10 c c1 l z i ad ad1) ++ ((tq_l11 c l z i ad))
def tq_l13 (c : Nat) (c1 : Nat) (l : List S42) (z : Nat → Value) (i : Nat) (ad : Addr) (ad1 : Addr) : List Value := [z 16, .slice (some ad) l.length c, .int .i64 (i : Int), .pointer (some (ad.add (i * 3))), .agg #[.int .i64 ((rd_T42 l i).f0), .int .i64 ((rd_T42 l i).f1), .int .i64 ((rd_T42 l i).f2)], .slice (some ad1) l.length c1, .int .i64 (i : Int), .pointer (some (ad1.add (i * 3))), .agg #[.int .i64 ((rd_T42 l i).f0), .int .i64 ((rd_T42 l i).f1), .int .i64 ((rd_T42 l i).f2)], .bool false]
def tq_b14 (c : Nat) (c1 : Nat) (l : List S42) (z : Nat → Value) (i : Nat) (ad : Addr) (ad1 : Addr) : List Value := (tq_l10 c c1 l z i ad ad1) ++ ((tq_l13 c c1 l z i ad ad1))
set_option maxHeartbeats 8000000 in
set_option maxRecDepth 100000 in
theorem c_bags {w : World} {v v' : Value} {l : List S42} (h : Sl k42 w v l) (h' : Sl k42 w v' l) (hl : l.length ≤ 1000) : Calls Try.prog 29 #[v, v'] w fun e w' => e = .returned (.bool true) ∧ Below w.heap.size w w' := by
  obtain ⟨A, c, rfl, h2, h3⟩ := h
  obtain ⟨A1, c1, rfl, h2', h3'⟩ := h'
  refine calls_of_wp Try.func29 rfl ?_
  have hW := Ws.nil w
  refine wp_seq ?_
  refine wp_region_list ?_
  refine sk (a' := (up (tq_b2 A A1 c c1 l) [])) (.bool false) ?_
  refine wpList_nil ?_
  refine wp_seq ?_
  refine wp_seq ?_
  refine wp_region_list ?_
  refine skp (.slice A l.length c) ?_
  refine skp (.int .i64 (l.length : Int)) ?_
  refine sk (a' := (up (tq_b2 A A1 c c1 l) [(6, .slice A l.length c), (7, .int .i64 (l.length : Int)), (8, .slice A1 l.length c1)])) (.slice A1 l.length c1) ?_
  refine skp (.int .i64 (l.length : Int)) ?_
  refine se (a' := (up (tq_b2 A A1 c c1 l) [(6, .slice A l.length c), (7, .int .i64 (l.length : Int)), (8, .slice A1 l.length c1), (9, .int .i64 (l.length : Int)), (10, .bool false)])) (.bool false) (Eq.trans (b := .ok (.value (.bool (((l.length : Int) : Int) != (l.length : Int)))) w) (by kernel_rfl) (st_ok (bne_eq_false_iff_eq.2 (by omega)))) ?_
  refine wpList_nil ?_
  refine wp_cond (t := false) (by kernel_rfl) ?_
  refine wp_skip ?_
  refine wp_seq ?_
  refine wp_seq ?_
  refine wp_region_list ?_
  refine sk (a' := (up (tq_b4 A A1 c c1 l) [])) (.int .i64 0) ?_
  refine wpList_nil ?_
  refine wp_block ?_
  refine wp_loop_ghost (fun (mm : Nat) (a' : Act) (W' : World) => ∃ z : Nat → Value, ∃ i : Nat, a' = (up (tq_b7 A A1 c c1 l z i) []) ∧ Ws w W' [] ∧ i ≤ l.length ∧ mm = l.length - i) (l.length - 0) ⟨(fun k => ((up (tq_b4 A A1 c c1 l) [])).tmps.getD k undef), 0, by kernel_rfl, hW, Nat.zero_le _, rfl⟩ ?_
  rintro mm _ Wl ⟨z, i, rfl, hW, hi, rfl⟩
  refine wp_seq ?_
  refine wp_seq ?_
  have hwi : IntKind.wrap .i64 ((i : Int) + 1) = ((i + 1 : Nat) : Int) := by rw [IntKind.wrap_i64]; omega
  rcases Nat.lt_or_ge i l.length with hin | hin
  · skip
    obtain ⟨ad, rfl, hb0⟩ := bag_at h3 hin
    obtain ⟨ad1, rfl, hb1⟩ := bag_at h3' hin
    refine wp_region_list ?_
    refine skp (.int .i64 (i : Int)) ?_
    refine skp (.slice (some ad) l.length c) ?_
    refine sk (a' := (up (tq_b9 c c1 l z i ad ad1) [(12, .slice (some ad) l.length c), (13, .int .i64 (l.length : Int))])) (.int .i64 (l.length : Int)) ?_
    refine se (a' := (up (tq_b9 c c1 l z i ad ad1) [(12, .slice (some ad) l.length c), (13, .int .i64 (l.length : Int)), (14, .bool true)])) (.bool true) (Eq.trans (b := .ok (.value (.bool (decide (((i : Int) : Int) < (l.length : Int))))) Wl) (by kernel_rfl) (st_ok (decide_eq_true (by omega)))) ?_
    refine wpList_nil ?_
    refine wp_cond (t := true) (by kernel_rfl) ?_
    refine wp_skip ?_
    refine wp_seq ?_
    refine wp_block ?_
    refine wp_seq ?_
    have hW := hW.drew
    refine wp_region_held_drew (S := fun W => Ws w W []) (by kernel_rfl) hW (fun _ => ?_)
    refine dk (a' := (up (tq_b9 c c1 l z i ad ad1) [(12, .slice (some ad) l.length c), (13, .int .i64 (l.length : Int)), (14, .bool true), (17, .slice (some ad) l.length c)])) 0 (.slice (some ad) l.length c) hW ?_
    refine dk (a' := (up (tq_b9 c c1 l z i ad ad1) [(12, .slice (some ad) l.length c), (13, .int .i64 (l.length : Int)), (14, .bool true), (17, .slice (some ad) l.length c), (18, .int .i64 (i : Int))])) 1 (.int .i64 (i : Int)) hW ?_
    refine de (a' := (up (tq_b12 c c1 l z i ad ad1) [])) 2 (.pointer (some (ad.add (i * 3)))) rfl (fun W hH => (Eq.trans (b := (do pure (Next.value (← Instr.indexAt 30 (.slice (some ad) l.length c) (.int .i64 (i : Int)))) : Sem Next).run Try.prog W) (by kernel_rfl) (st_val (idx_b42 hin W)))) hW ?_
    refine de (a' := (up (tq_b12 c c1 l z i ad ad1) [(20, .agg #[.int .i64 ((rd_T42 l i).f0), .int .i64 ((rd_T42 l i).f1), .int .i64 ((rd_T42 l i).f2)])])) 3 (.agg #[.int .i64 ((rd_T42 l i).f0), .int .i64 ((rd_T42 l i).f1), .int .i64 ((rd_T42 l i).f2)]) rfl (fun W hH => (Eq.trans (b := (do pure (Next.value (← Instr.loadAt 42 (.pointer (some (ad.add (i * 3)))))) : Sem Next).run Try.prog W) (by kernel_rfl) (st_val (load_row W _ 42 _ _ (hb0.below hH.below).cell Try.underlying42 rfl (by kernel_rfl))))) hW ?_
    refine dk (a' := (up (tq_b12 c c1 l z i ad ad1) [(20, .agg #[.int .i64 ((rd_T42 l i).f0), .int .i64 ((rd_T42 l i).f1), .int .i64 ((rd_T42 l i).f2)]), (21, .slice (some ad1) l.length c1)])) 4 (.slice (some ad1) l.length c1) hW ?_
    refine dk (a' := (up (tq_b12 c c1 l z i ad ad1) [(20, .agg #[.int .i64 ((rd_T42 l i).f0), .int .i64 ((rd_T42 l i).f1), .int .i64 ((rd_T42 l i).f2)]), (21, .slice (some ad1) l.length c1), (22, .int .i64 (i : Int))])) 5 (.int .i64 (i : Int)) hW ?_
    refine de (a' := (up (tq_b12 c c1 l z i ad ad1) [(20, .agg #[.int .i64 ((rd_T42 l i).f0), .int .i64 ((rd_T42 l i).f1), .int .i64 ((rd_T42 l i).f2)]), (21, .slice (some ad1) l.length c1), (22, .int .i64 (i : Int)), (23, .pointer (some (ad1.add (i * 3))))])) 6 (.pointer (some (ad1.add (i * 3)))) rfl (fun W hH => (Eq.trans (b := (do pure (Next.value (← Instr.indexAt 30 (.slice (some ad1) l.length c1) (.int .i64 (i : Int)))) : Sem Next).run Try.prog W) (by kernel_rfl) (st_val (idx_b42 hin W)))) hW ?_
    refine de (a' := (up (tq_b12 c c1 l z i ad ad1) [(20, .agg #[.int .i64 ((rd_T42 l i).f0), .int .i64 ((rd_T42 l i).f1), .int .i64 ((rd_T42 l i).f2)]), (21, .slice (some ad1) l.length c1), (22, .int .i64 (i : Int)), (23, .pointer (some (ad1.add (i * 3)))), (24, .agg #[.int .i64 ((rd_T42 l i).f0), .int .i64 ((rd_T42 l i).f1), .int .i64 ((rd_T42 l i).f2)])])) 7 (.agg #[.int .i64 ((rd_T42 l i).f0), .int .i64 ((rd_T42 l i).f1), .int .i64 ((rd_T42 l i).f2)]) rfl (fun W hH => (Eq.trans (b := (do pure (Next.value (← Instr.loadAt 42 (.pointer (some (ad1.add (i * 3)))))) : Sem Next).run Try.prog W) (by kernel_rfl) (st_val (load_row W _ 42 _ _ (hb1.below hH.below).cell Try.underlying42 rfl (by kernel_rfl))))) hW ?_
    refine de (a' := (up (tq_b14 c c1 l z i ad ad1) [])) 8 (.bool false) rfl (fun W hH => (Eq.trans (b := (do pure (Next.value (← (do pure (Value.bool (!(← Op.equal 42 (.agg #[.int .i64 ((rd_T42 l i).f0), .int .i64 ((rd_T42 l i).f1), .int .i64 ((rd_T42 l i).f2)]) (.agg #[.int .i64 ((rd_T42 l i).f0), .int .i64 ((rd_T42 l i).f1), .int .i64 ((rd_T42 l i).f2)])))) : Sem Value))) : Sem Next).run Try.prog W) (by kernel_rfl) (st_val (st_valn (bag3_eq ((rd_T42 l i).f0) ((rd_T42 l i).f1) ((rd_T42 l i).f2) W))))) hW ?_
    refine wpAnyH_done (by kernel_rfl) ?_ _
    refine wp_cond (t := false) (by kernel_rfl) ?_
    refine wp_skip ?_
    refine wp_region_list ?_
    refine skp (.int .i64 (i : Int)) ?_
    refine sep (.int .i64 ((i + 1 : Nat) : Int)) (Eq.trans (b := .ok (.value (.int .i64 (IntKind.wrap .i64 ((i : Int) + 1)))) Wl.drew) (by kernel_rfl) (by rw [hwi])) ?_
    refine sk (a' := (up (tq_b14 c c1 l z i ad ad1) [(5, .int .i64 ((i + 1 : Nat) : Int)), (15, .int .i64 (i : Int)), (16, .int .i64 ((i + 1 : Nat) : Int))])) (.int .i64 ((i + 1 : Nat) : Int)) ?_
    refine wpList_nil ?_
    exact lp_next (l.length - (i + 1)) (by omega) ⟨(fun k => ((up (tq_b14 c c1 l z i ad ad1) [(5, .int .i64 ((i + 1 : Nat) : Int)), (15, .int .i64 (i : Int)), (16, .int .i64 ((i + 1 : Nat) : Int))])).tmps.getD k undef), (i + 1), by kernel_rfl, hW, (by omega), rfl⟩
  · skip
    refine wp_region_list ?_
    refine skp (.int .i64 (i : Int)) ?_
    refine skp (.slice A l.length c) ?_
    refine sk (a' := (up (tq_b7 A A1 c c1 l z i) [(11, .int .i64 (i : Int)), (12, .slice A l.length c), (13, .int .i64 (l.length : Int))])) (.int .i64 (l.length : Int)) ?_
    refine se (a' := (up (tq_b7 A A1 c c1 l z i) [(11, .int .i64 (i : Int)), (12, .slice A l.length c), (13, .int .i64 (l.length : Int)), (14, .bool false)])) (.bool false) (Eq.trans (b := .ok (.value (.bool (decide (((i : Int) : Int) < (l.length : Int))))) Wl) (by kernel_rfl) (st_ok (decide_eq_false (by omega)))) ?_
    refine wpList_nil ?_
    refine wp_cond (t := false) (by kernel_rfl) ?_
    refine wp_exit ?_
    refine wp_seq ?_
    refine wp_region_list ?_
    refine sk (a' := (up (tq_b7 A A1 c c1 l z i) [(4, .bool true), (11, .int .i64 (i : Int)), (12, .slice A l.length c), (13, .int .i64 (l.length : Int)), (14, .bool false)])) (.bool true) ?_
    refine wpList_nil ?_
    refine wp_ret ?_
    (try simp only [Exit.then, Exit.inBlock])
    change bodyPost Try.prog Try.f29 _ .ret _ _
    refine bodyPost_ret (results_tmp rfl _ _ _) rfl ?_
    exact ⟨rfl, hW.below⟩
def tx_c0 (t : Th) : Array Value := #[.int .i64 t.pc, .int .i64 t.fu, .int .i64 t.st, .int .i64 (t.R 0), .int .i64 (t.R 1), .int .i64 (t.R 2), .int .i64 (t.R 3), .int .i64 (t.R 4), .int .i64 (t.R 5), .int .i64 (t.R 6), .int .i64 (t.R 7), .int .i64 (t.R 8), .int .i64 (t.R 9), .int .i64 (t.R 10), .int .i64 (t.R 11), .int .i64 t.kd, .int .i64 t.mi, .int .i64 t.mn, t.sv, t.bv, t.nv, .int .i64 t.old]
def tx_c1 (t : Th) (sv : Value) (bv : Value) (nv : Value) : Array Value := #[.int .i64 t.pc, .int .i64 t.fu, .int .i64 t.st, .int .i64 (t.R 0), .int .i64 (t.R 1), .int .i64 (t.R 2), .int .i64 (t.R 3), .int .i64 (t.R 4), .int .i64 (t.R 5), .int .i64 (t.R 6), .int .i64 (t.R 7), .int .i64 (t.R 8), .int .i64 (t.R 9), .int .i64 (t.R 10), .int .i64 (t.R 11), .int .i64 t.kd, .int .i64 t.mi, .int .i64 t.mn, sv, bv, nv, .int .i64 t.old]
def tx_l2 (t : Th) (sv : Value) (bv : Value) (nv : Value) (g1 : Nat) : List Value := [.agg (tx_c0 t), .agg (tx_c1 t sv bv nv), .pointer (some ⟨g1, 0, none⟩), zz, zz, zz, zz, zz, zz, zz, zz, zz, zz, zz, zz, zz]
def tx_l3 : List Value := [zz, zz, zz, zz, zz, zz, zz, zz, zz, zz, zz, zz, zz, zz, zz, zz]
def tx_l4 : List Value := [zz, zz, zz, zz, zz, zz, zz, zz, zz, zz, zz]
def tx_b5 (t : Th) (sv : Value) (bv : Value) (nv : Value) (g1 : Nat) : List Value := (tx_l2 t sv bv nv g1) ++ (tx_l3 ++ (tx_l3 ++ (tx_l4)))
def tx_l6 (t : Th) (sv : Value) (bv : Value) (nv : Value) (g1 : Nat) (g3 : Nat) : List Value := [.agg (tx_c0 t), .agg (tx_c1 t sv bv nv), .pointer (some ⟨g1, 0, none⟩), .pointer (some ⟨g3, 0, none⟩), .bool false, .pointer (some ⟨g1, 0, none⟩), .int .i64 t.pc, .pointer (some ⟨g3, 0, none⟩), .int .i64 t.pc, zz, zz, zz, zz, zz, zz, zz]
def tx_b7 (t : Th) (sv : Value) (bv : Value) (nv : Value) (g1 : Nat) (g3 : Nat) : List Value := (tx_l6 t sv bv nv g1 g3) ++ (tx_l3 ++ (tx_l3 ++ (tx_l4)))
def tx_l8 (t : Th) (sv : Value) (bv : Value) (nv : Value) (g1 : Nat) (g3 : Nat) : List Value := [.agg (tx_c0 t), .agg (tx_c1 t sv bv nv), .pointer (some ⟨g1, 0, none⟩), .pointer (some ⟨g3, 0, none⟩), .bool false, .pointer (some ⟨g1, 0, none⟩), .int .i64 t.pc, .pointer (some ⟨g3, 0, none⟩), .int .i64 t.pc, .bool true, .bool true, .pointer (some ⟨g1, 1, none⟩), .int .i64 t.fu, .pointer (some ⟨g3, 1, none⟩), .int .i64 t.fu, zz]
def tx_b9 (t : Th) (sv : Value) (bv : Value) (nv : Value) (g1 : Nat) (g3 : Nat) : List Value := (tx_l8 t sv bv nv g1 g3) ++ (tx_l3 ++ (tx_l3 ++ (tx_l4)))
def tx_l10 (t : Th) (sv : Value) (bv : Value) (nv : Value) (g1 : Nat) (g3 : Nat) : List Value := [.agg (tx_c0 t), .agg (tx_c1 t sv bv nv), .pointer (some ⟨g1, 0, none⟩), .pointer (some ⟨g3, 0, none⟩), .bool false, .pointer (some ⟨g1, 0, none⟩), .int .i64 t.pc, .pointer (some ⟨g3, 0, none⟩), .int .i64 t.pc, .bool true, .bool true, .pointer (some ⟨g1, 1, none⟩), .int .i64 t.fu, .pointer (some ⟨g3, 1, none⟩), .int .i64 t.fu, .bool true]
def tx_l11 (t : Th) (g1 : Nat) (g3 : Nat) : List Value := [.bool true, .bool true, .pointer (some ⟨g1, 2, none⟩), .int .i64 t.st, .pointer (some ⟨g3, 2, none⟩), zz, zz, zz, zz, zz, zz, zz, zz, zz, zz, zz]
def tx_b12 (t : Th) (sv : Value) (bv : Value) (nv : Value) (g1 : Nat) (g3 : Nat) : List Value := (tx_l10 t sv bv nv g1 g3) ++ ((tx_l11 t g1 g3) ++ (tx_l3 ++ (tx_l4)))
def tx_c2 (t : Th) : Array Value := #[.int .i64 (t.R 0), .int .i64 (t.R 1), .int .i64 (t.R 2), .int .i64 (t.R 3), .int .i64 (t.R 4), .int .i64 (t.R 5), .int .i64 (t.R 6), .int .i64 (t.R 7), .int .i64 (t.R 8), .int .i64 (t.R 9), .int .i64 (t.R 10), .int .i64 (t.R 11)]
def tx_l14 (t : Th) (g1 : Nat) (g3 : Nat) : List Value := [.bool true, .bool true, .pointer (some ⟨g1, 2, none⟩), .int .i64 t.st, .pointer (some ⟨g3, 2, none⟩), .int .i64 t.st, .bool true, .bool true, .bool true, .pointer (some ⟨g1, 3, none⟩), .agg (tx_c2 t), zz, zz, zz, zz, zz]
def tx_b15 (t : Th) (sv : Value) (bv : Value) (nv : Value) (g1 : Nat) (g3 : Nat) : List Value := (tx_l10 t sv bv nv g1 g3) ++ ((tx_l14 t g1 g3) ++ (tx_l3 ++ (tx_l4)))
def tx_l16 (t : Th) (g1 : Nat) (g3 : Nat) : List Value := [.bool true, .bool true, .pointer (some ⟨g1, 2, none⟩), .int .i64 t.st, .pointer (some ⟨g3, 2, none⟩), .int .i64 t.st, .bool true, .bool true, .bool true, .pointer (some ⟨g1, 3, none⟩), .agg (tx_c2 t), .pointer (some ⟨g3, 3, none⟩), .agg (tx_c2 t), .bool true, .bool true, .bool true]
def tx_l17 (g1 : Nat) : List Value := [.pointer (some ⟨g1, 15, none⟩), zz, zz, zz, zz, zz, zz, zz, zz, zz, zz, zz, zz, zz, zz, zz]
def tx_b18 (t : Th) (sv : Value) (bv : Value) (nv : Value) (g1 : Nat) (g3 : Nat) : List Value := (tx_l10 t sv bv nv g1 g3) ++ ((tx_l16 t g1 g3) ++ ((tx_l17 g1) ++ (tx_l4)))
def tx_l19 (t : Th) (sv : Value) (g1 : Nat) (g3 : Nat) : List Value := [.pointer (some ⟨g1, 15, none⟩), .agg #[.int .i64 t.kd, .int .i64 t.mi, .int .i64 t.mn, t.sv], .pointer (some ⟨g3, 15, none⟩), .agg #[.int .i64 t.kd, .int .i64 t.mi, .int .i64 t.mn, sv], .bool true, .bool true, .bool true, zz, zz, zz, zz, zz, zz, zz, zz, zz]
def tx_b20 (t : Th) (sv : Value) (bv : Value) (nv : Value) (g1 : Nat) (g3 : Nat) : List Value := (tx_l10 t sv bv nv g1 g3) ++ ((tx_l16 t g1 g3) ++ ((tx_l19 t sv g1 g3) ++ (tx_l4)))
def tx_l21 (t : Th) (sv : Value) (bv : Value) (g1 : Nat) (g3 : Nat) : List Value := [.pointer (some ⟨g1, 15, none⟩), .agg #[.int .i64 t.kd, .int .i64 t.mi, .int .i64 t.mn, t.sv], .pointer (some ⟨g3, 15, none⟩), .agg #[.int .i64 t.kd, .int .i64 t.mi, .int .i64 t.mn, sv], .bool true, .bool true, .bool true, .pointer (some ⟨g1, 19, none⟩), t.bv, .pointer (some ⟨g3, 19, none⟩), bv, .bool true, .bool true, zz, zz, zz]
def tx_b22 (t : Th) (sv : Value) (bv : Value) (nv : Value) (g1 : Nat) (g3 : Nat) : List Value := (tx_l10 t sv bv nv g1 g3) ++ ((tx_l16 t g1 g3) ++ ((tx_l21 t sv bv g1 g3) ++ (tx_l4)))
def tx_l23 (t : Th) (sv : Value) (bv : Value) (g1 : Nat) (g3 : Nat) : List Value := [.pointer (some ⟨g1, 15, none⟩), .agg #[.int .i64 t.kd, .int .i64 t.mi, .int .i64 t.mn, t.sv], .pointer (some ⟨g3, 15, none⟩), .agg #[.int .i64 t.kd, .int .i64 t.mi, .int .i64 t.mn, sv], .bool true, .bool true, .bool true, .pointer (some ⟨g1, 19, none⟩), t.bv, .pointer (some ⟨g3, 19, none⟩), bv, .bool true, .bool true, .bool true, .pointer (some ⟨g1, 20, none⟩), t.nv]
def tx_l24 (nv : Value) (g3 : Nat) : List Value := [.pointer (some ⟨g3, 20, none⟩), nv, .bool true, zz, zz, zz, zz, zz, zz, zz, zz]
def tx_b25 (t : Th) (sv : Value) (bv : Value) (nv : Value) (g1 : Nat) (g3 : Nat) : List Value := (tx_l10 t sv bv nv g1 g3) ++ ((tx_l16 t g1 g3) ++ ((tx_l23 t sv bv g1 g3) ++ ((tx_l24 nv g3))))
def tx_l26 (t : Th) (nv : Value) (g1 : Nat) (g3 : Nat) : List Value := [.pointer (some ⟨g3, 20, none⟩), nv, .bool true, .bool true, .bool true, .pointer (some ⟨g1, 21, none⟩), .int .i64 t.old, .pointer (some ⟨g3, 21, none⟩), .int .i64 t.old, zz, zz]
def tx_b27 (t : Th) (sv : Value) (bv : Value) (nv : Value) (g1 : Nat) (g3 : Nat) : List Value := (tx_l10 t sv bv nv g1 g3) ++ ((tx_l16 t g1 g3) ++ ((tx_l23 t sv bv g1 g3) ++ ((tx_l26 t nv g1 g3))))
set_option maxHeartbeats 8000000 in
set_option maxRecDepth 100000 in
theorem th_same {w : World} {t : Th} {sv bv nv : Value} {xs : List Int} {bs : List S42} {ns : List Int} (h : t.reads w xs bs ns) (h2 : (t.rows sv bv nv).reads w xs bs ns) (hl : xs.length ≤ 1000 ∧ bs.length ≤ 1000 ∧ ns.length ≤ 1000) : Calls Try.prog 12 #[.agg t.cells, .agg (t.rows sv bv nv).cells] w fun e w' => e = .returned (.bool true) ∧ Below w.heap.size w w' := by
  refine calls_of_wp Try.func12 rfl ?_
  have hW := Ws.nil w
  refine wp_seq ?_
  refine wp_region_list ?_
  obtain ⟨g1, W2, hr, hW, hbb, hge⟩ := hW.mk1 (P := Try.prog) (s := Instr.box 32 (.agg (tx_c0 t))) (tx_c0 t) 32 (by kernel_rfl)
  refine se (a' := (up (tx_b5 t sv bv nv g1) [])) (.pointer (some ⟨g1, 0, none⟩)) (Eq.trans (b := (do pure (Next.value (← Instr.box 32 (.agg (tx_c0 t)))) : Sem Next).run Try.prog w) (by kernel_rfl) (st_val hr)) ?_
  obtain ⟨g3, W4, hr, hW, hbb, hge⟩ := hW.mk1 (P := Try.prog) (s := Instr.box 32 (.agg (tx_c1 t sv bv nv))) (tx_c1 t sv bv nv) 32 (by kernel_rfl)
  refine se (a' := (up (tx_b5 t sv bv nv g1) [(3, .pointer (some ⟨g3, 0, none⟩))])) (.pointer (some ⟨g3, 0, none⟩)) (Eq.trans (b := (do pure (Next.value (← Instr.box 32 (.agg (tx_c1 t sv bv nv)))) : Sem Next).run Try.prog W2) (by kernel_rfl) (st_val hr)) ?_
  refine sk (a' := (up (tx_b5 t sv bv nv g1) [(3, .pointer (some ⟨g3, 0, none⟩)), (4, .bool false)])) (.bool false) ?_
  refine wpList_nil ?_
  refine wp_seq ?_
  refine wp_region_list ?_
  refine skp (.pointer (some ⟨g1, 0, none⟩)) ?_
  refine sep (.int .i64 t.pc) (ev1 hW 1 0 Try.underlying3) ?_
  refine sk (a' := (up (tx_b5 t sv bv nv g1) [(3, .pointer (some ⟨g3, 0, none⟩)), (4, .bool false), (5, .pointer (some ⟨g1, 0, none⟩)), (6, .int .i64 t.pc), (7, .pointer (some ⟨g3, 0, none⟩))])) (.pointer (some ⟨g3, 0, none⟩)) ?_
  refine sep (.int .i64 t.pc) (ev1 hW 0 0 Try.underlying3) ?_
  refine sep (.bool true) (Eq.trans (b := .ok (.value (.bool ((t.pc : Int) == t.pc))) W4) (by kernel_rfl) (st_ok (beq_iff_eq.2 (by omega)))) ?_
  refine sk (a' := (up (tx_b7 t sv bv nv g1 g3) [(9, .bool true), (10, .bool true)])) (.bool true) ?_
  refine sk (a' := (up (tx_b7 t sv bv nv g1 g3) [(9, .bool true), (10, .bool true), (11, .pointer (some ⟨g1, 1, none⟩))])) (.pointer (some ⟨g1, 1, none⟩)) ?_
  refine se (a' := (up (tx_b7 t sv bv nv g1 g3) [(9, .bool true), (10, .bool true), (11, .pointer (some ⟨g1, 1, none⟩)), (12, .int .i64 t.fu)])) (.int .i64 t.fu) (ev1 hW 1 1 Try.underlying3) ?_
  refine sk (a' := (up (tx_b7 t sv bv nv g1 g3) [(9, .bool true), (10, .bool true), (11, .pointer (some ⟨g1, 1, none⟩)), (12, .int .i64 t.fu), (13, .pointer (some ⟨g3, 1, none⟩))])) (.pointer (some ⟨g3, 1, none⟩)) ?_
  refine se (a' := (up (tx_b9 t sv bv nv g1 g3) [])) (.int .i64 t.fu) (ev1 hW 0 1 Try.underlying3) ?_
  refine sep (.bool true) (Eq.trans (b := .ok (.value (.bool ((t.fu : Int) == t.fu))) W4) (by kernel_rfl) (st_ok (beq_iff_eq.2 (by omega)))) ?_
  refine skp (.bool true) ?_
  refine sk (a' := (up (tx_b9 t sv bv nv g1 g3) [(15, .bool true), (16, .bool true), (17, .bool true)])) (.bool true) ?_
  refine sk (a' := (up (tx_b9 t sv bv nv g1 g3) [(15, .bool true), (16, .bool true), (17, .bool true), (18, .pointer (some ⟨g1, 2, none⟩))])) (.pointer (some ⟨g1, 2, none⟩)) ?_
  refine se (a' := (up (tx_b9 t sv bv nv g1 g3) [(15, .bool true), (16, .bool true), (17, .bool true), (18, .pointer (some ⟨g1, 2, none⟩)), (19, .int .i64 t.st)])) (.int .i64 t.st) (ev1 hW 1 2 Try.underlying3) ?_
  refine sk (a' := (up (tx_b12 t sv bv nv g1 g3) [])) (.pointer (some ⟨g3, 2, none⟩)) ?_
  refine se (a' := (up (tx_b12 t sv bv nv g1 g3) [(21, .int .i64 t.st)])) (.int .i64 t.st) (ev1 hW 0 2 Try.underlying3) ?_
  refine sep (.bool true) (Eq.trans (b := .ok (.value (.bool ((t.st : Int) == t.st))) W4) (by kernel_rfl) (st_ok (beq_iff_eq.2 (by omega)))) ?_
  refine skp (.bool true) ?_
  refine sk (a' := (up (tx_b12 t sv bv nv g1 g3) [(21, .int .i64 t.st), (22, .bool true), (23, .bool true), (24, .bool true)])) (.bool true) ?_
  refine sk (a' := (up (tx_b12 t sv bv nv g1 g3) [(21, .int .i64 t.st), (22, .bool true), (23, .bool true), (24, .bool true), (25, .pointer (some ⟨g1, 3, none⟩))])) (.pointer (some ⟨g1, 3, none⟩)) ?_
  refine se (a' := (up (tx_b15 t sv bv nv g1 g3) [])) (.agg (tx_c2 t)) (evA hW 1 3 Try.underlying26) ?_
  refine sk (a' := (up (tx_b15 t sv bv nv g1 g3) [(27, .pointer (some ⟨g3, 3, none⟩))])) (.pointer (some ⟨g3, 3, none⟩)) ?_
  refine se (a' := (up (tx_b15 t sv bv nv g1 g3) [(27, .pointer (some ⟨g3, 3, none⟩)), (28, .agg (tx_c2 t))])) (.agg (tx_c2 t)) (evA hW 0 3 Try.underlying26) ?_
  refine sep (.bool true) (Eq.trans (b := (do pure (Next.value (← (do pure (Value.bool (← Op.equal 26 (.agg #[.int .i64 (t.R 0), .int .i64 (t.R 1), .int .i64 (t.R 2), .int .i64 (t.R 3), .int .i64 (t.R 4), .int .i64 (t.R 5), .int .i64 (t.R 6), .int .i64 (t.R 7), .int .i64 (t.R 8), .int .i64 (t.R 9), .int .i64 (t.R 10), .int .i64 (t.R 11)]) (.agg #[.int .i64 (t.R 0), .int .i64 (t.R 1), .int .i64 (t.R 2), .int .i64 (t.R 3), .int .i64 (t.R 4), .int .i64 (t.R 5), .int .i64 (t.R 6), .int .i64 (t.R 7), .int .i64 (t.R 8), .int .i64 (t.R 9), .int .i64 (t.R 10), .int .i64 (t.R 11)]))) : Sem Value))) : Sem Next).run Try.prog W4) (by kernel_rfl) (st_val (st_valb (regs_eq t.R W4)))) ?_
  refine skp (.bool true) ?_
  refine sk (a' := (up (tx_b15 t sv bv nv g1 g3) [(27, .pointer (some ⟨g3, 3, none⟩)), (28, .agg (tx_c2 t)), (29, .bool true), (30, .bool true), (31, .bool true)])) (.bool true) ?_
  refine sk (a' := (up (tx_b18 t sv bv nv g1 g3) [])) (.pointer (some ⟨g1, 15, none⟩)) ?_
  refine se (a' := (up (tx_b18 t sv bv nv g1 g3) [(33, .agg #[.int .i64 t.kd, .int .i64 t.mi, .int .i64 t.mn, t.sv])])) (.agg #[.int .i64 t.kd, .int .i64 t.mi, .int .i64 t.mn, t.sv]) (evA hW 1 15 Try.underlying29) ?_
  refine sk (a' := (up (tx_b18 t sv bv nv g1 g3) [(33, .agg #[.int .i64 t.kd, .int .i64 t.mi, .int .i64 t.mn, t.sv]), (34, .pointer (some ⟨g3, 15, none⟩))])) (.pointer (some ⟨g3, 15, none⟩)) ?_
  refine se (a' := (up (tx_b18 t sv bv nv g1 g3) [(33, .agg #[.int .i64 t.kd, .int .i64 t.mi, .int .i64 t.mn, t.sv]), (34, .pointer (some ⟨g3, 15, none⟩)), (35, .agg #[.int .i64 t.kd, .int .i64 t.mi, .int .i64 t.mn, sv])])) (.agg #[.int .i64 t.kd, .int .i64 t.mi, .int .i64 t.mn, sv]) (evA hW 0 15 Try.underlying29) ?_
  refine st_call (c_micro (h.s.below hW.below) (h2.s.below hW.below) hl.1 t.kd t.mi t.mn) (by kernel_rfl) (by kernel_rfl) ?_
  rintro _ W5 ⟨rfl, hB⟩
  have hW := hW.step hB
  refine ⟨_, (up (tx_b18 t sv bv nv g1 g3) [(33, .agg #[.int .i64 t.kd, .int .i64 t.mi, .int .i64 t.mn, t.sv]), (34, .pointer (some ⟨g3, 15, none⟩)), (35, .agg #[.int .i64 t.kd, .int .i64 t.mi, .int .i64 t.mn, sv]), (36, .bool true)]), rfl, by kernel_rfl, ?_⟩
  refine skp (.bool true) ?_
  refine sk (a' := (up (tx_b20 t sv bv nv g1 g3) [])) (.bool true) ?_
  refine sk (a' := (up (tx_b20 t sv bv nv g1 g3) [(39, .pointer (some ⟨g1, 19, none⟩))])) (.pointer (some ⟨g1, 19, none⟩)) ?_
  refine se (a' := (up (tx_b20 t sv bv nv g1 g3) [(39, .pointer (some ⟨g1, 19, none⟩)), (40, t.bv)])) (t.bv) (ev1 hW 1 19 Try.underlying30) ?_
  refine sk (a' := (up (tx_b20 t sv bv nv g1 g3) [(39, .pointer (some ⟨g1, 19, none⟩)), (40, t.bv), (41, .pointer (some ⟨g3, 19, none⟩))])) (.pointer (some ⟨g3, 19, none⟩)) ?_
  refine se (a' := (up (tx_b20 t sv bv nv g1 g3) [(39, .pointer (some ⟨g1, 19, none⟩)), (40, t.bv), (41, .pointer (some ⟨g3, 19, none⟩)), (42, bv)])) (bv) (ev1 hW 0 19 Try.underlying30) ?_
  refine st_call (c_bags (h.b.below hW.below) (h2.b.below hW.below) hl.2.1) (by kernel_rfl) (by kernel_rfl) ?_
  rintro _ W6 ⟨rfl, hB⟩
  have hW := hW.step hB
  refine ⟨_, (up (tx_b20 t sv bv nv g1 g3) [(39, .pointer (some ⟨g1, 19, none⟩)), (40, t.bv), (41, .pointer (some ⟨g3, 19, none⟩)), (42, bv), (43, .bool true)]), rfl, by kernel_rfl, ?_⟩
  refine skp (.bool true) ?_
  refine sk (a' := (up (tx_b22 t sv bv nv g1 g3) [(45, .bool true)])) (.bool true) ?_
  refine sk (a' := (up (tx_b22 t sv bv nv g1 g3) [(45, .bool true), (46, .pointer (some ⟨g1, 20, none⟩))])) (.pointer (some ⟨g1, 20, none⟩)) ?_
  refine se (a' := (up (tx_b22 t sv bv nv g1 g3) [(45, .bool true), (46, .pointer (some ⟨g1, 20, none⟩)), (47, t.nv)])) (t.nv) (ev1 hW 1 20 Try.underlying27) ?_
  refine sk (a' := (up (tx_b22 t sv bv nv g1 g3) [(45, .bool true), (46, .pointer (some ⟨g1, 20, none⟩)), (47, t.nv), (48, .pointer (some ⟨g3, 20, none⟩))])) (.pointer (some ⟨g3, 20, none⟩)) ?_
  refine se (a' := (up (tx_b22 t sv bv nv g1 g3) [(45, .bool true), (46, .pointer (some ⟨g1, 20, none⟩)), (47, t.nv), (48, .pointer (some ⟨g3, 20, none⟩)), (49, nv)])) (nv) (ev1 hW 0 20 Try.underlying27) ?_
  refine st_call (c_nums (h.n.below hW.below) (h2.n.below hW.below) hl.2.2) (by kernel_rfl) (by kernel_rfl) ?_
  rintro _ W7 ⟨rfl, hB⟩
  have hW := hW.step hB
  refine ⟨_, (up (tx_b25 t sv bv nv g1 g3) []), rfl, by kernel_rfl, ?_⟩
  refine skp (.bool true) ?_
  refine sk (a' := (up (tx_b25 t sv bv nv g1 g3) [(51, .bool true), (52, .bool true)])) (.bool true) ?_
  refine sk (a' := (up (tx_b25 t sv bv nv g1 g3) [(51, .bool true), (52, .bool true), (53, .pointer (some ⟨g1, 21, none⟩))])) (.pointer (some ⟨g1, 21, none⟩)) ?_
  refine se (a' := (up (tx_b25 t sv bv nv g1 g3) [(51, .bool true), (52, .bool true), (53, .pointer (some ⟨g1, 21, none⟩)), (54, .int .i64 t.old)])) (.int .i64 t.old) (ev1 hW 1 21 Try.underlying3) ?_
  refine sk (a' := (up (tx_b25 t sv bv nv g1 g3) [(51, .bool true), (52, .bool true), (53, .pointer (some ⟨g1, 21, none⟩)), (54, .int .i64 t.old), (55, .pointer (some ⟨g3, 21, none⟩))])) (.pointer (some ⟨g3, 21, none⟩)) ?_
  refine se (a' := (up (tx_b27 t sv bv nv g1 g3) [])) (.int .i64 t.old) (ev1 hW 0 21 Try.underlying3) ?_
  refine sep (.bool true) (Eq.trans (b := .ok (.value (.bool ((t.old : Int) == t.old))) W7) (by kernel_rfl) (st_ok (beq_iff_eq.2 (by omega)))) ?_
  refine skp (.bool true) ?_
  refine sk (a' := (up (tx_b27 t sv bv nv g1 g3) [(4, .bool true), (57, .bool true), (58, .bool true)])) (.bool true) ?_
  refine wpList_nil ?_
  refine wp_ret ?_
  (try simp only [Exit.then, Exit.inBlock])
  change bodyPost Try.prog Try.f12 _ .ret _ _
  refine bodyPost_ret (results_tmp rfl _ _ _) rfl ?_
  exact ⟨rfl, hW.below⟩
end Go.Proofs.Ythcmcekjgecnhaa.Th
