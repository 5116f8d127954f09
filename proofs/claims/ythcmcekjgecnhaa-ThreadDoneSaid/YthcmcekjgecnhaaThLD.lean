/- The walk of the law ThreadDone. No condition beside those that each theorem names. -/
import Derived.Test.YthcmcekjgecnhaaThN
namespace Go.Proofs.Ythcmcekjgecnhaa.Th
open Go.RowKit Go.Proofs.YthcmcekjgecnhaaW.PrintWords Go.Proofs.YthcmcekjgecnhaaW.PrintLast Go.Proofs.YthcmcekjgecnhaaW.PrintMore
open Go.Proofs.YthcmcekjgecnhaaW.HWords Go.Proofs.Ythcmcekjgecnhaa.QThreadLocals
set_option linter.unusedVariables false
set_option linter.unusedSimpArgs false
set_option maxHeartbeats 8000000 in
set_option maxRecDepth 100000 in
theorem law_Done {w : World} {t : Th} {xs : List Int} {bs : List S42} {ns : List Int} {As : Option Addr} {cs : Nat} {Ab : Option Addr} {cb : Nat} {An : Option Addr} {cn : Nat} (h : (t.rows (.slice As xs.length cs) (.slice Ab bs.length cb) (.slice An ns.length cn)).reads w xs bs ns) (hrc : xs.length ≤ cs ∧ bs.length ≤ cb ∧ ns.length ≤ cn) {A : Option Addr} {cc : Nat} {l : List I5} (hcc : l.length ≤ cc) (hc0 : Sl kCode w (.slice A l.length cc) l) (hll : l.length ≤ 9223372036854775807) : Calls Try.prog 6 #[.agg (t.rows (.slice As xs.length cs) (.slice Ab bs.length cb) (.slice An ns.length cn)).cells, .slice A l.length cc] w fun e w' => e = .returned (.bool true) ∧ Below w.heap.size w w' := by
  have hq : ∀ N : Nat, Sl kCode w (.slice A N cc) (l.take N) → doneB t N = true ∨ (doneB t N = false ∧ t.kd ≠ 0) ∨ (∃ ad o ia ib ic id_, A = some ad ∧ doneB t N = false ∧ t.kd = 0 ∧ (0 ≤ t.pc ∧ t.pc < N) ∧ CodeAt w ad t.pc o ia ib ic id_) := by
    intro N hN
    by_cases hd : doneB t N = true
    · exact .inl hd
    · have hd2 : doneB t N = false := by simpa using hd
      by_cases hk : t.kd = 0
      · refine .inr (.inr ?_)
        have hp : 0 ≤ t.pc ∧ t.pc < N := by
          unfold doneB at hd2
          split at hd2
          · cases hd2
          · split at hd2
            · omega
            · split at hd2
              · cases hd2
              · split at hd2
                · assumption
                · cases hd2
        obtain ⟨ad, o, ia, ib, ic, id_, e, hcode⟩ := code_at hN hp.1 hp.2
        exact ⟨ad, o, ia, ib, ic, id_, e, hd2, hk, hp, hcode⟩
      · exact .inr (.inl ⟨hd2, hk⟩)
  have hs : (l.length > 20 ∧ (doneB t 20 = true ∨ (doneB t 20 = false ∧ t.kd ≠ 0) ∨ (∃ ad o ia ib ic id_, A = some ad ∧ doneB t 20 = false ∧ t.kd = 0 ∧ (0 ≤ t.pc ∧ t.pc < (20 : Nat)) ∧ CodeAt w ad t.pc o ia ib ic id_))) ∨ (l.length ≤ 20 ∧ (doneB t l.length = true ∨ (doneB t l.length = false ∧ t.kd ≠ 0) ∨ (∃ ad o ia ib ic id_, A = some ad ∧ doneB t l.length = false ∧ t.kd = 0 ∧ (0 ≤ t.pc ∧ t.pc < l.length) ∧ CodeAt w ad t.pc o ia ib ic id_))) := by
    by_cases h20 : l.length > 20
    · exact .inl ⟨h20, hq 20 (Sl.cut hc0 (by omega))⟩
    · refine .inr ⟨by omega, hq l.length ?_⟩
      have := Sl.cut (m := l.length) hc0 (Nat.le_refl _)
      exact this
  rcases hs with ⟨hlen, hd | ⟨hd, hk⟩ | ⟨ad, o, ia, ib, ic, id_, rfl, hd, hk, hp, hcode⟩⟩ | ⟨hlen, hd | ⟨hd, hk⟩ | ⟨ad, o, ia, ib, ic, id_, rfl, hd, hk, hp, hcode⟩⟩
  · skip
    have hl20 : (l.length : Int) > 20 := by omega
    refine calls_of_wp Try.func6 rfl ?_
    have hW := Ws.nil w
    refine wp_seq ?_
    refine wp_region_list ?_
    obtain ⟨g1, W2, hr, hW, hbb, hge⟩ := hW.mk1 (P := Try.prog) (s := Instr.box 32 (.agg (lo0_c0 t xs bs ns As cs Ab cb An cn))) (lo0_c0 t xs bs ns As cs Ab cb An cn) 32 (by kernel_rfl)
    refine se (a' := (lo0_a1 t xs bs ns As cs Ab cb An cn l A cc g1)) (.pointer (some ⟨g1, 0, none⟩)) (Eq.trans (b := (do pure (Next.value (← Instr.box 32 (.agg (lo0_c0 t xs bs ns As cs Ab cb An cn)))) : Sem Next).run Try.prog w) (by kernel_rfl) (st_val hr)) ?_
    refine sk (a' := (lo0_a5 t xs bs ns As cs Ab cb An cn l A cc g1)) (.bool false) ?_
    refine wpList_nil ?_
    refine wp_seq ?_
    refine wp_seq ?_
    refine wp_region_list ?_
    refine st_call (th_alive W2) (by kernel_rfl) (by kernel_rfl) ?_
    rintro _ W3 ⟨rfl, hB⟩
    have hW := hW.step hB
    refine ⟨_, (lo0_a7 t xs bs ns As cs Ab cb An cn l A cc g1), rfl, by kernel_rfl, ?_⟩
    refine sk (a' := (lo0_a9 t xs bs ns As cs Ab cb An cn l A cc g1)) (.bool false) ?_
    refine wpList_nil ?_
    refine wp_cond (t := false) (by kernel_rfl) ?_
    refine wp_skip ?_
    refine wp_seq ?_
    refine wp_seq ?_
    refine wp_region_list ?_
    refine sk (a' := (lo0_a11 t xs bs ns As cs Ab cb An cn l A cc g1)) (.slice A l.length cc) ?_
    refine sk (a' := (lo0_a13 t xs bs ns As cs Ab cb An cn l A cc g1)) (.int .i64 (l.length : Int)) ?_
    refine se (a' := (lo0_a15 t xs bs ns As cs Ab cb An cn l A cc g1)) (.bool true) (Eq.trans (b := .ok (.value (.bool (decide (((l.length : Int) : Int) > 20)))) W3) (by kernel_rfl) (st_ok (decide_eq_true (by omega)))) ?_
    refine wpList_nil ?_
    refine wp_cond (t := true) (by kernel_rfl) ?_
    refine wp_region_list ?_
    refine sk (a' := (lo0_a17 t xs bs ns As cs Ab cb An cn l A cc g1)) (.slice A l.length cc) ?_
    refine se (a' := (lo0_a19 t xs bs ns As cs Ab cb An cn l A cc g1)) (.slice A 20 cc) (Eq.trans (b := (do pure (Next.value (← Instr.sliceAt 49 (.slice A l.length cc) none (some (.int .i64 ((20 : Nat) : Int))) none)) : Sem Next).run Try.prog W3) (by kernel_rfl) (st_val (sl_cut Try.underlying49 (Classical.choose_spec inf45) 20 (by omega) hcc W3))) ?_
    refine sk (a' := (lo0_a21 t xs bs ns As cs Ab cb An cn l A cc g1)) (.slice A 20 cc) ?_
    refine wpList_nil ?_
    refine wp_seq ?_
    refine wp_region_list ?_
    refine se (a' := (lo0_a23 t xs bs ns As cs Ab cb An cn l A cc g1)) (.agg (lo0_c0 t xs bs ns As cs Ab cb An cn)) (evA hW 0 0 Try.underlying32) ?_
    refine sk (a' := (lo0_a25 t xs bs ns As cs Ab cb An cn l A cc g1)) (.slice A 20 cc) ?_
    refine st_call (th_rDone (t := (⟨t.pc, t.fu, t.st, t.R, t.kd, t.mi, t.mn, (.slice As xs.length cs), (.slice Ab bs.length cb), (.slice An ns.length cn), t.old⟩ : Th)) (A := A) (n := 20) (c := cc) hd (by omega) W3) (by kernel_rfl) (by kernel_rfl) ?_
    rintro _ W4 ⟨rfl, hB⟩
    have hW := hW.step hB
    refine ⟨_, (lo0_a27 t xs bs ns As cs Ab cb An cn l A cc g1), rfl, by kernel_rfl, ?_⟩
    refine sk (a' := (lo0_a29 t xs bs ns As cs Ab cb An cn l A cc g1)) (.bool true) ?_
    refine wpList_nil ?_
    refine wp_seq ?_
    refine wp_region_list ?_
    refine se (a' := (lo0_a31 t xs bs ns As cs Ab cb An cn l A cc g1)) (.agg (lo0_c0 t xs bs ns As cs Ab cb An cn)) (evA hW 0 0 Try.underlying32) ?_
    refine sk (a' := (lo0_a33 t xs bs ns As cs Ab cb An cn l A cc g1)) (.slice A 20 cc) ?_
    refine st_call (th_Next_a (t := (⟨t.pc, t.fu, t.st, t.R, t.kd, t.mi, t.mn, (.slice As xs.length cs), (.slice Ab bs.length cb), (.slice An ns.length cn), t.old⟩ : Th)) (A := A) (n := 20) (cc := cc) (by omega) hd W4) (by kernel_rfl) (by kernel_rfl) ?_
    rintro _ W5 ⟨rfl, hB⟩
    have hW := hW.step hB
    refine ⟨_, (lo0_a35 t xs bs ns As cs Ab cb An cn l A cc g1), rfl, by kernel_rfl, ?_⟩
    refine sk (a' := (lo0_a37 t xs bs ns As cs Ab cb An cn l A cc g1)) (.tuple #[.agg #[.int .i64 0, .int .i64 0, .int .i64 0, .int .i64 0, .int .i64 0], .bool false]) ?_
    refine sk (a' := (lo0_a39 t xs bs ns As cs Ab cb An cn l A cc g1)) (.agg #[.int .i64 0, .int .i64 0, .int .i64 0, .int .i64 0, .int .i64 0]) ?_
    refine sk (a' := (lo0_a41 t xs bs ns As cs Ab cb An cn l A cc g1)) (.bool false) ?_
    obtain ⟨g6, W7, hr, hW, hbb, hge⟩ := hW.mk1 (P := Try.prog) (s := Instr.alloc 45 true (.tuple #[])) #[.int .i64 0, .int .i64 0, .int .i64 0, .int .i64 0, .int .i64 0] 45 (by kernel_rfl)
    refine se (a' := (lo0_a43 t xs bs ns As cs Ab cb An cn l A cc g1 g6)) (.pointer (some ⟨g6, 0, none⟩)) (Eq.trans (b := (do pure (Next.value (← Instr.alloc 45 true (.tuple #[]))) : Sem Next).run Try.prog W5) (by kernel_rfl) (st_val hr)) ?_
    obtain ⟨W8, hr, hW, hF⟩ := hW.storeN (P := Try.prog) (o := 0) (cs' := #[.int .i64 0, .int .i64 0, .int .i64 0, .int .i64 0, .int .i64 0]) (L' := [(g6, 45, #[.int .i64 0, .int .i64 0, .int .i64 0, .int .i64 0, .int .i64 0]), (g1, 32, (lo0_c0 t xs bs ns As cs Ab cb An cn))]) 0 rfl #[.int .i64 0, .int .i64 0, .int .i64 0, .int .i64 0, .int .i64 0] (by kernel_rfl) (Nat.le_of_ble_eq_true rfl) (by kernel_rfl) rfl 45 (by kernel_rfl)
    refine st_none (w' := W8) (a' := (lo0_a43 t xs bs ns As cs Ab cb An cn l A cc g1 g6)) (by kernel_rfl) (Eq.trans (b := (do Instr.storeAt 45 (.pointer (some ⟨g6, 0, none⟩)) (.agg #[.int .i64 0, .int .i64 0, .int .i64 0, .int .i64 0, .int .i64 0]); pure Next.skip : Sem Next).run Try.prog W7) (by kernel_rfl) (st_unit hr)) (by kernel_rfl) ?_
    refine sk (a' := (lo0_a45 t xs bs ns As cs Ab cb An cn l A cc g1 g6)) (.bool false) ?_
    refine wpList_nil ?_
    refine wp_seq ?_
    refine wp_seq ?_
    refine wp_region_list ?_
    refine se (a' := (lo0_a47 t xs bs ns As cs Ab cb An cn l A cc g1 g6)) (.agg (lo0_c0 t xs bs ns As cs Ab cb An cn)) (evA hW 1 0 Try.underlying32) ?_
    refine sk (a' := (lo0_a49 t xs bs ns As cs Ab cb An cn l A cc g1 g6)) (.slice A 20 cc) ?_
    refine st_call (th_Doneb (t := (⟨t.pc, t.fu, t.st, t.R, t.kd, t.mi, t.mn, (.slice As xs.length cs), (.slice Ab bs.length cb), (.slice An ns.length cn), t.old⟩ : Th)) (A := A) (n := 20) (c := cc) hd (by omega) W8) (by kernel_rfl) (by kernel_rfl) ?_
    rintro _ W9 ⟨rfl, hB⟩
    have hW := hW.step hB
    refine ⟨_, (lo0_a51 t xs bs ns As cs Ab cb An cn l A cc g1 g6), rfl, by kernel_rfl, ?_⟩
    refine sk (a' := (lo0_a53 t xs bs ns As cs Ab cb An cn l A cc g1 g6)) (.bool true) ?_
    refine sk (a' := (lo0_a55 t xs bs ns As cs Ab cb An cn l A cc g1 g6)) (.bool false) ?_
    refine sk (a' := (lo0_a57 t xs bs ns As cs Ab cb An cn l A cc g1 g6)) (.bool false) ?_
    refine sk (a' := (lo0_a59 t xs bs ns As cs Ab cb An cn l A cc g1 g6)) (.bool false) ?_
    refine sk (a' := (lo0_a61 t xs bs ns As cs Ab cb An cn l A cc g1 g6)) (.bool true) ?_
    refine sk (a' := (lo0_a63 t xs bs ns As cs Ab cb An cn l A cc g1 g6)) (.bool false) ?_
    refine st_ones (w' := W9) (a' := (lo0_a65 t xs bs ns As cs Ab cb An cn l A cc g1 g6)) (a2 := (lo0_a65 t xs bs ns As cs Ab cb An cn l A cc g1 g6)) 4 (.bool false) (by kernel_rfl) (by kernel_rfl) (by kernel_rfl) (by kernel_rfl) (by kernel_rfl) ?_
    refine sk (a' := (lo0_a67 t xs bs ns As cs Ab cb An cn l A cc g1 g6)) (.bool false) ?_
    refine sk (a' := (lo0_a69 t xs bs ns As cs Ab cb An cn l A cc g1 g6)) (.bool false) ?_
    refine sk (a' := (lo0_a71 t xs bs ns As cs Ab cb An cn l A cc g1 g6)) (.bool false) ?_
    refine wpList_nil ?_
    refine wp_cond (t := false) (by kernel_rfl) ?_
    refine wp_skip ?_
    refine wp_seq ?_
    have hW := hW.drew
    refine wp_region_held_drew (S := fun W => Ws w W [(g6, 45, #[.int .i64 0, .int .i64 0, .int .i64 0, .int .i64 0, .int .i64 0]), (g1, 32, (lo0_c0 t xs bs ns As cs Ab cb An cn))]) (by kernel_rfl) hW (fun _ => ?_)
    refine dk (a' := (lo0_a73 t xs bs ns As cs Ab cb An cn l A cc g1 g6)) 0 (.bool false) hW ?_
    refine dk (a' := (lo0_a75 t xs bs ns As cs Ab cb An cn l A cc g1 g6)) 1 (.bool false) hW ?_
    refine dr_skip 2 (a' := (lo0_a75 t xs bs ns As cs Ab cb An cn l A cc g1 g6)) rfl (by kernel_rfl) (by kernel_rfl) (by kernel_rfl) (fun _ _ _ h => h) (by kernel_rfl) hW (by kernel_rfl) ?_
    refine dr_skip 3 (a' := (lo0_a75 t xs bs ns As cs Ab cb An cn l A cc g1 g6)) rfl (by kernel_rfl) (by kernel_rfl) (by kernel_rfl) (fun _ _ _ h => h) (by kernel_rfl) hW (by kernel_rfl) ?_
    refine dr_skip 4 (a' := (lo0_a75 t xs bs ns As cs Ab cb An cn l A cc g1 g6)) rfl (by kernel_rfl) (by kernel_rfl) (by kernel_rfl) (fun _ _ _ h => h) (by kernel_rfl) hW (by kernel_rfl) ?_
    refine dr_skip 5 (a' := (lo0_a75 t xs bs ns As cs Ab cb An cn l A cc g1 g6)) rfl (by kernel_rfl) (by kernel_rfl) (by kernel_rfl) (fun _ _ _ h => h) (by kernel_rfl) hW (by kernel_rfl) ?_
    refine dr_skip 6 (a' := (lo0_a75 t xs bs ns As cs Ab cb An cn l A cc g1 g6)) rfl (by kernel_rfl) (by kernel_rfl) (by kernel_rfl) (fun _ _ _ h => h) (by kernel_rfl) hW (by kernel_rfl) ?_
    refine dr_skip 7 (a' := (lo0_a75 t xs bs ns As cs Ab cb An cn l A cc g1 g6)) rfl (by kernel_rfl) (by kernel_rfl) (by kernel_rfl) (fun _ _ _ h => h) (by kernel_rfl) hW (by kernel_rfl) ?_
    refine dr_skip 8 (a' := (lo0_a75 t xs bs ns As cs Ab cb An cn l A cc g1 g6)) rfl (by kernel_rfl) (by kernel_rfl) (by kernel_rfl) (fun _ _ _ h => h) (by kernel_rfl) hW (by kernel_rfl) ?_
    refine dk (a' := (lo0_a77 t xs bs ns As cs Ab cb An cn l A cc g1 g6)) 9 (.bool false) hW ?_
    refine dk (a' := (lo0_a79 t xs bs ns As cs Ab cb An cn l A cc g1 g6)) 10 (.bool false) hW ?_
    refine dk (a' := (lo0_a81 t xs bs ns As cs Ab cb An cn l A cc g1 g6)) 11 (.bool false) hW ?_
    refine dk (a' := (lo0_a83 t xs bs ns As cs Ab cb An cn l A cc g1 g6)) 12 (.bool true) hW ?_
    refine dk (a' := (lo0_a85 t xs bs ns As cs Ab cb An cn l A cc g1 g6)) 13 (.bool true) hW ?_
    refine de (a' := (lo0_a87 t xs bs ns As cs Ab cb An cn l A cc g1 g6)) 14 (.agg #[.int .i64 0, .int .i64 0, .int .i64 0, .int .i64 0, .int .i64 0]) rfl (fun W hH => (evA hH 0 0 Try.underlying45)) hW ?_
    refine de (a' := (lo0_a89 t xs bs ns As cs Ab cb An cn l A cc g1 g6)) 15 (.agg #[.int .i64 0, .int .i64 0, .int .i64 0, .int .i64 0, .int .i64 0]) rfl (fun W hH => by kernel_rfl) hW ?_
    refine de (a' := (lo0_a91 t xs bs ns As cs Ab cb An cn l A cc g1 g6)) 16 (.bool true) rfl (fun W hH => (Eq.trans (b := (do pure (Next.value (← (do pure (Value.bool (← Op.equal 45 (.agg #[.int .i64 0, .int .i64 0, .int .i64 0, .int .i64 0, .int .i64 0]) (.agg #[.int .i64 0, .int .i64 0, .int .i64 0, .int .i64 0, .int .i64 0]))) : Sem Value))) : Sem Next).run Try.prog W) (by kernel_rfl) (st_val (st_valb (five_eq 0 0 0 0 0 W))))) hW ?_
    refine dk (a' := (lo0_a93 t xs bs ns As cs Ab cb An cn l A cc g1 g6)) 17 (.bool true) hW ?_
    refine dk (a' := (lo0_a95 t xs bs ns As cs Ab cb An cn l A cc g1 g6)) 18 (.bool true) hW ?_
    refine dk (a' := (lo0_a97 t xs bs ns As cs Ab cb An cn l A cc g1 g6)) 19 (.bool true) hW ?_
    refine wpAnyH_done (by kernel_rfl) ?_ _
    refine wp_ret ?_
    (try simp only [Exit.then, Exit.inBlock])
    change bodyPost Try.prog Try.f6 _ .ret _ _
    refine bodyPost_ret (results_tmp rfl _ _ _) rfl ?_
    exact ⟨rfl, hW.below⟩
  · skip
    have hl20 : (l.length : Int) > 20 := by omega
    refine calls_of_wp Try.func6 rfl ?_
    have hW := Ws.nil w
    refine wp_seq ?_
    refine wp_region_list ?_
    obtain ⟨g1, W2, hr, hW, hbb, hge⟩ := hW.mk1 (P := Try.prog) (s := Instr.box 32 (.agg (lo1_c0 t xs bs ns As cs Ab cb An cn))) (lo1_c0 t xs bs ns As cs Ab cb An cn) 32 (by kernel_rfl)
    refine se (a' := (lo1_a1 t xs bs ns As cs Ab cb An cn l A cc g1)) (.pointer (some ⟨g1, 0, none⟩)) (Eq.trans (b := (do pure (Next.value (← Instr.box 32 (.agg (lo1_c0 t xs bs ns As cs Ab cb An cn)))) : Sem Next).run Try.prog w) (by kernel_rfl) (st_val hr)) ?_
    refine sk (a' := (lo1_a5 t xs bs ns As cs Ab cb An cn l A cc g1)) (.bool false) ?_
    refine wpList_nil ?_
    refine wp_seq ?_
    refine wp_seq ?_
    refine wp_region_list ?_
    refine st_call (th_alive W2) (by kernel_rfl) (by kernel_rfl) ?_
    rintro _ W3 ⟨rfl, hB⟩
    have hW := hW.step hB
    refine ⟨_, (lo1_a7 t xs bs ns As cs Ab cb An cn l A cc g1), rfl, by kernel_rfl, ?_⟩
    refine sk (a' := (lo1_a9 t xs bs ns As cs Ab cb An cn l A cc g1)) (.bool false) ?_
    refine wpList_nil ?_
    refine wp_cond (t := false) (by kernel_rfl) ?_
    refine wp_skip ?_
    refine wp_seq ?_
    refine wp_seq ?_
    refine wp_region_list ?_
    refine sk (a' := (lo1_a11 t xs bs ns As cs Ab cb An cn l A cc g1)) (.slice A l.length cc) ?_
    refine sk (a' := (lo1_a13 t xs bs ns As cs Ab cb An cn l A cc g1)) (.int .i64 (l.length : Int)) ?_
    refine se (a' := (lo1_a15 t xs bs ns As cs Ab cb An cn l A cc g1)) (.bool true) (Eq.trans (b := .ok (.value (.bool (decide (((l.length : Int) : Int) > 20)))) W3) (by kernel_rfl) (st_ok (decide_eq_true (by omega)))) ?_
    refine wpList_nil ?_
    refine wp_cond (t := true) (by kernel_rfl) ?_
    refine wp_region_list ?_
    refine sk (a' := (lo1_a17 t xs bs ns As cs Ab cb An cn l A cc g1)) (.slice A l.length cc) ?_
    refine se (a' := (lo1_a19 t xs bs ns As cs Ab cb An cn l A cc g1)) (.slice A 20 cc) (Eq.trans (b := (do pure (Next.value (← Instr.sliceAt 49 (.slice A l.length cc) none (some (.int .i64 ((20 : Nat) : Int))) none)) : Sem Next).run Try.prog W3) (by kernel_rfl) (st_val (sl_cut Try.underlying49 (Classical.choose_spec inf45) 20 (by omega) hcc W3))) ?_
    refine sk (a' := (lo1_a21 t xs bs ns As cs Ab cb An cn l A cc g1)) (.slice A 20 cc) ?_
    refine wpList_nil ?_
    refine wp_seq ?_
    refine wp_region_list ?_
    refine se (a' := (lo1_a23 t xs bs ns As cs Ab cb An cn l A cc g1)) (.agg (lo1_c0 t xs bs ns As cs Ab cb An cn)) (evA hW 0 0 Try.underlying32) ?_
    refine sk (a' := (lo1_a25 t xs bs ns As cs Ab cb An cn l A cc g1)) (.slice A 20 cc) ?_
    refine st_call (th_rDone (t := (⟨t.pc, t.fu, t.st, t.R, t.kd, t.mi, t.mn, (.slice As xs.length cs), (.slice Ab bs.length cb), (.slice An ns.length cn), t.old⟩ : Th)) (A := A) (n := 20) (c := cc) hd (by omega) W3) (by kernel_rfl) (by kernel_rfl) ?_
    rintro _ W4 ⟨rfl, hB⟩
    have hW := hW.step hB
    refine ⟨_, (lo1_a27 t xs bs ns As cs Ab cb An cn l A cc g1), rfl, by kernel_rfl, ?_⟩
    refine sk (a' := (lo1_a29 t xs bs ns As cs Ab cb An cn l A cc g1)) (.bool false) ?_
    refine wpList_nil ?_
    refine wp_seq ?_
    refine wp_region_list ?_
    refine se (a' := (lo1_a31 t xs bs ns As cs Ab cb An cn l A cc g1)) (.agg (lo1_c0 t xs bs ns As cs Ab cb An cn)) (evA hW 0 0 Try.underlying32) ?_
    refine sk (a' := (lo1_a33 t xs bs ns As cs Ab cb An cn l A cc g1)) (.slice A 20 cc) ?_
    refine st_call (th_Next_b (t := (⟨t.pc, t.fu, t.st, t.R, t.kd, t.mi, t.mn, (.slice As xs.length cs), (.slice Ab bs.length cb), (.slice An ns.length cn), t.old⟩ : Th)) (A := A) (n := 20) (cc := cc) (by omega) hd hk W4) (by kernel_rfl) (by kernel_rfl) ?_
    rintro _ W5 ⟨rfl, hB⟩
    have hW := hW.step hB
    refine ⟨_, (lo1_a35 t xs bs ns As cs Ab cb An cn l A cc g1), rfl, by kernel_rfl, ?_⟩
    refine sk (a' := (lo1_a37 t xs bs ns As cs Ab cb An cn l A cc g1)) (.tuple #[.agg #[.int .i64 0, .int .i64 0, .int .i64 0, .int .i64 0, .int .i64 0], .bool false]) ?_
    refine sk (a' := (lo1_a39 t xs bs ns As cs Ab cb An cn l A cc g1)) (.agg #[.int .i64 0, .int .i64 0, .int .i64 0, .int .i64 0, .int .i64 0]) ?_
    refine sk (a' := (lo1_a41 t xs bs ns As cs Ab cb An cn l A cc g1)) (.bool false) ?_
    obtain ⟨g6, W7, hr, hW, hbb, hge⟩ := hW.mk1 (P := Try.prog) (s := Instr.alloc 45 true (.tuple #[])) #[.int .i64 0, .int .i64 0, .int .i64 0, .int .i64 0, .int .i64 0] 45 (by kernel_rfl)
    refine se (a' := (lo1_a43 t xs bs ns As cs Ab cb An cn l A cc g1 g6)) (.pointer (some ⟨g6, 0, none⟩)) (Eq.trans (b := (do pure (Next.value (← Instr.alloc 45 true (.tuple #[]))) : Sem Next).run Try.prog W5) (by kernel_rfl) (st_val hr)) ?_
    obtain ⟨W8, hr, hW, hF⟩ := hW.storeN (P := Try.prog) (o := 0) (cs' := #[.int .i64 0, .int .i64 0, .int .i64 0, .int .i64 0, .int .i64 0]) (L' := [(g6, 45, #[.int .i64 0, .int .i64 0, .int .i64 0, .int .i64 0, .int .i64 0]), (g1, 32, (lo1_c0 t xs bs ns As cs Ab cb An cn))]) 0 rfl #[.int .i64 0, .int .i64 0, .int .i64 0, .int .i64 0, .int .i64 0] (by kernel_rfl) (Nat.le_of_ble_eq_true rfl) (by kernel_rfl) rfl 45 (by kernel_rfl)
    refine st_none (w' := W8) (a' := (lo1_a43 t xs bs ns As cs Ab cb An cn l A cc g1 g6)) (by kernel_rfl) (Eq.trans (b := (do Instr.storeAt 45 (.pointer (some ⟨g6, 0, none⟩)) (.agg #[.int .i64 0, .int .i64 0, .int .i64 0, .int .i64 0, .int .i64 0]); pure Next.skip : Sem Next).run Try.prog W7) (by kernel_rfl) (st_unit hr)) (by kernel_rfl) ?_
    refine sk (a' := (lo1_a45 t xs bs ns As cs Ab cb An cn l A cc g1 g6)) (.bool false) ?_
    refine wpList_nil ?_
    refine wp_seq ?_
    refine wp_seq ?_
    refine wp_region_list ?_
    refine se (a' := (lo1_a47 t xs bs ns As cs Ab cb An cn l A cc g1 g6)) (.agg (lo1_c0 t xs bs ns As cs Ab cb An cn)) (evA hW 1 0 Try.underlying32) ?_
    refine sk (a' := (lo1_a49 t xs bs ns As cs Ab cb An cn l A cc g1 g6)) (.slice A 20 cc) ?_
    refine st_call (th_Doneb (t := (⟨t.pc, t.fu, t.st, t.R, t.kd, t.mi, t.mn, (.slice As xs.length cs), (.slice Ab bs.length cb), (.slice An ns.length cn), t.old⟩ : Th)) (A := A) (n := 20) (c := cc) hd (by omega) W8) (by kernel_rfl) (by kernel_rfl) ?_
    rintro _ W9 ⟨rfl, hB⟩
    have hW := hW.step hB
    refine ⟨_, (lo1_a51 t xs bs ns As cs Ab cb An cn l A cc g1 g6), rfl, by kernel_rfl, ?_⟩
    refine sk (a' := (lo1_a53 t xs bs ns As cs Ab cb An cn l A cc g1 g6)) (.bool false) ?_
    refine sk (a' := (lo1_a55 t xs bs ns As cs Ab cb An cn l A cc g1 g6)) (.bool false) ?_
    refine sk (a' := (lo1_a57 t xs bs ns As cs Ab cb An cn l A cc g1 g6)) (.bool false) ?_
    refine sk (a' := (lo1_a59 t xs bs ns As cs Ab cb An cn l A cc g1 g6)) (.bool false) ?_
    refine sk (a' := (lo1_a61 t xs bs ns As cs Ab cb An cn l A cc g1 g6)) (.bool false) ?_
    refine sk (a' := (lo1_a63 t xs bs ns As cs Ab cb An cn l A cc g1 g6)) (.bool true) ?_
    refine sk (a' := (lo1_a65 t xs bs ns As cs Ab cb An cn l A cc g1 g6)) (.bool true) ?_
    refine sk (a' := (lo1_a67 t xs bs ns As cs Ab cb An cn l A cc g1 g6)) (.pointer (some ⟨g1, 15, none⟩)) ?_
    refine sk (a' := (lo1_a69 t xs bs ns As cs Ab cb An cn l A cc g1 g6)) (.pointer (some ⟨g1, 15, none⟩)) ?_
    refine se (a' := (lo1_a71 t xs bs ns As cs Ab cb An cn l A cc g1 g6)) (.int .i64 t.kd) (ev1 hW 1 15 Try.underlying3) ?_
    refine se (a' := (lo1_a73 t xs bs ns As cs Ab cb An cn l A cc g1 g6)) (.bool false) (Eq.trans (b := .ok (.value (.bool ((t.kd : Int) == 0))) W9) (by kernel_rfl) (st_ok (beq_eq_false_iff_ne.2 (by omega)))) ?_
    refine sk (a' := (lo1_a75 t xs bs ns As cs Ab cb An cn l A cc g1 g6)) (.bool false) ?_
    refine sk (a' := (lo1_a77 t xs bs ns As cs Ab cb An cn l A cc g1 g6)) (.bool false) ?_
    refine sk (a' := (lo1_a79 t xs bs ns As cs Ab cb An cn l A cc g1 g6)) (.bool false) ?_
    refine wpList_nil ?_
    refine wp_cond (t := false) (by kernel_rfl) ?_
    refine wp_skip ?_
    refine wp_seq ?_
    have hW := hW.drew
    refine wp_region_held_drew (S := fun W => Ws w W [(g6, 45, #[.int .i64 0, .int .i64 0, .int .i64 0, .int .i64 0, .int .i64 0]), (g1, 32, (lo1_c0 t xs bs ns As cs Ab cb An cn))]) (by kernel_rfl) hW (fun _ => ?_)
    refine dk (a' := (lo1_a81 t xs bs ns As cs Ab cb An cn l A cc g1 g6)) 0 (.bool false) hW ?_
    refine dk (a' := (lo1_a83 t xs bs ns As cs Ab cb An cn l A cc g1 g6)) 1 (.bool false) hW ?_
    refine dr_skip 2 (a' := (lo1_a83 t xs bs ns As cs Ab cb An cn l A cc g1 g6)) rfl (by kernel_rfl) (by kernel_rfl) (by kernel_rfl) (fun _ _ _ h => h) (by kernel_rfl) hW (by kernel_rfl) ?_
    refine dr_skip 3 (a' := (lo1_a83 t xs bs ns As cs Ab cb An cn l A cc g1 g6)) rfl (by kernel_rfl) (by kernel_rfl) (by kernel_rfl) (fun _ _ _ h => h) (by kernel_rfl) hW (by kernel_rfl) ?_
    refine dr_skip 4 (a' := (lo1_a83 t xs bs ns As cs Ab cb An cn l A cc g1 g6)) rfl (by kernel_rfl) (by kernel_rfl) (by kernel_rfl) (fun _ _ _ h => h) (by kernel_rfl) hW (by kernel_rfl) ?_
    refine dr_skip 5 (a' := (lo1_a83 t xs bs ns As cs Ab cb An cn l A cc g1 g6)) rfl (by kernel_rfl) (by kernel_rfl) (by kernel_rfl) (fun _ _ _ h => h) (by kernel_rfl) hW (by kernel_rfl) ?_
    refine dr_skip 6 (a' := (lo1_a83 t xs bs ns As cs Ab cb An cn l A cc g1 g6)) rfl (by kernel_rfl) (by kernel_rfl) (by kernel_rfl) (fun _ _ _ h => h) (by kernel_rfl) hW (by kernel_rfl) ?_
    refine dr_skip 7 (a' := (lo1_a83 t xs bs ns As cs Ab cb An cn l A cc g1 g6)) rfl (by kernel_rfl) (by kernel_rfl) (by kernel_rfl) (fun _ _ _ h => h) (by kernel_rfl) hW (by kernel_rfl) ?_
    refine dr_skip 8 (a' := (lo1_a83 t xs bs ns As cs Ab cb An cn l A cc g1 g6)) rfl (by kernel_rfl) (by kernel_rfl) (by kernel_rfl) (fun _ _ _ h => h) (by kernel_rfl) hW (by kernel_rfl) ?_
    refine dk (a' := (lo1_a85 t xs bs ns As cs Ab cb An cn l A cc g1 g6)) 9 (.bool false) hW ?_
    refine dk (a' := (lo1_a87 t xs bs ns As cs Ab cb An cn l A cc g1 g6)) 10 (.bool false) hW ?_
    refine dk (a' := (lo1_a89 t xs bs ns As cs Ab cb An cn l A cc g1 g6)) 11 (.bool false) hW ?_
    refine dk (a' := (lo1_a91 t xs bs ns As cs Ab cb An cn l A cc g1 g6)) 12 (.bool true) hW ?_
    refine dk (a' := (lo1_a93 t xs bs ns As cs Ab cb An cn l A cc g1 g6)) 13 (.bool true) hW ?_
    refine de (a' := (lo1_a95 t xs bs ns As cs Ab cb An cn l A cc g1 g6)) 14 (.agg #[.int .i64 0, .int .i64 0, .int .i64 0, .int .i64 0, .int .i64 0]) rfl (fun W hH => (evA hH 0 0 Try.underlying45)) hW ?_
    refine de (a' := (lo1_a97 t xs bs ns As cs Ab cb An cn l A cc g1 g6)) 15 (.agg #[.int .i64 0, .int .i64 0, .int .i64 0, .int .i64 0, .int .i64 0]) rfl (fun W hH => by kernel_rfl) hW ?_
    refine de (a' := (lo1_a99 t xs bs ns As cs Ab cb An cn l A cc g1 g6)) 16 (.bool true) rfl (fun W hH => (Eq.trans (b := (do pure (Next.value (← (do pure (Value.bool (← Op.equal 45 (.agg #[.int .i64 0, .int .i64 0, .int .i64 0, .int .i64 0, .int .i64 0]) (.agg #[.int .i64 0, .int .i64 0, .int .i64 0, .int .i64 0, .int .i64 0]))) : Sem Value))) : Sem Next).run Try.prog W) (by kernel_rfl) (st_val (st_valb (five_eq 0 0 0 0 0 W))))) hW ?_
    refine dk (a' := (lo1_a101 t xs bs ns As cs Ab cb An cn l A cc g1 g6)) 17 (.bool true) hW ?_
    refine dk (a' := (lo1_a103 t xs bs ns As cs Ab cb An cn l A cc g1 g6)) 18 (.bool true) hW ?_
    refine dk (a' := (lo1_a105 t xs bs ns As cs Ab cb An cn l A cc g1 g6)) 19 (.bool true) hW ?_
    refine wpAnyH_done (by kernel_rfl) ?_ _
    refine wp_ret ?_
    (try simp only [Exit.then, Exit.inBlock])
    change bodyPost Try.prog Try.f6 _ .ret _ _
    refine bodyPost_ret (results_tmp rfl _ _ _) rfl ?_
    exact ⟨rfl, hW.below⟩
  · skip
    have hl20 : (l.length : Int) > 20 := by omega
    refine calls_of_wp Try.func6 rfl ?_
    have hW := Ws.nil w
    refine wp_seq ?_
    refine wp_region_list ?_
    obtain ⟨g1, W2, hr, hW, hbb, hge⟩ := hW.mk1 (P := Try.prog) (s := Instr.box 32 (.agg (lo2_c0 t xs bs ns As cs Ab cb An cn))) (lo2_c0 t xs bs ns As cs Ab cb An cn) 32 (by kernel_rfl)
    refine se (a' := (lo2_a1 t xs bs ns As cs Ab cb An cn l ad cc g1)) (.pointer (some ⟨g1, 0, none⟩)) (Eq.trans (b := (do pure (Next.value (← Instr.box 32 (.agg (lo2_c0 t xs bs ns As cs Ab cb An cn)))) : Sem Next).run Try.prog w) (by kernel_rfl) (st_val hr)) ?_
    refine sk (a' := (lo2_a5 t xs bs ns As cs Ab cb An cn l ad cc g1)) (.bool false) ?_
    refine wpList_nil ?_
    refine wp_seq ?_
    refine wp_seq ?_
    refine wp_region_list ?_
    refine st_call (th_alive W2) (by kernel_rfl) (by kernel_rfl) ?_
    rintro _ W3 ⟨rfl, hB⟩
    have hW := hW.step hB
    refine ⟨_, (lo2_a7 t xs bs ns As cs Ab cb An cn l ad cc g1), rfl, by kernel_rfl, ?_⟩
    refine sk (a' := (lo2_a9 t xs bs ns As cs Ab cb An cn l ad cc g1)) (.bool false) ?_
    refine wpList_nil ?_
    refine wp_cond (t := false) (by kernel_rfl) ?_
    refine wp_skip ?_
    refine wp_seq ?_
    refine wp_seq ?_
    refine wp_region_list ?_
    refine sk (a' := (lo2_a11 t xs bs ns As cs Ab cb An cn l ad cc g1)) (.slice (some ad) l.length cc) ?_
    refine sk (a' := (lo2_a13 t xs bs ns As cs Ab cb An cn l ad cc g1)) (.int .i64 (l.length : Int)) ?_
    refine se (a' := (lo2_a15 t xs bs ns As cs Ab cb An cn l ad cc g1)) (.bool true) (Eq.trans (b := .ok (.value (.bool (decide (((l.length : Int) : Int) > 20)))) W3) (by kernel_rfl) (st_ok (decide_eq_true (by omega)))) ?_
    refine wpList_nil ?_
    refine wp_cond (t := true) (by kernel_rfl) ?_
    refine wp_region_list ?_
    refine sk (a' := (lo2_a17 t xs bs ns As cs Ab cb An cn l ad cc g1)) (.slice (some ad) l.length cc) ?_
    refine se (a' := (lo2_a19 t xs bs ns As cs Ab cb An cn l ad cc g1)) (.slice (some ad) 20 cc) (Eq.trans (b := (do pure (Next.value (← Instr.sliceAt 49 (.slice (some ad) l.length cc) none (some (.int .i64 ((20 : Nat) : Int))) none)) : Sem Next).run Try.prog W3) (by kernel_rfl) (st_val (sl_cut Try.underlying49 (Classical.choose_spec inf45) 20 (by omega) hcc W3))) ?_
    refine sk (a' := (lo2_a21 t xs bs ns As cs Ab cb An cn l ad cc g1)) (.slice (some ad) 20 cc) ?_
    refine wpList_nil ?_
    refine wp_seq ?_
    refine wp_region_list ?_
    refine se (a' := (lo2_a23 t xs bs ns As cs Ab cb An cn l ad cc g1)) (.agg (lo2_c0 t xs bs ns As cs Ab cb An cn)) (evA hW 0 0 Try.underlying32) ?_
    refine sk (a' := (lo2_a25 t xs bs ns As cs Ab cb An cn l ad cc g1)) (.slice (some ad) 20 cc) ?_
    refine st_call (th_rDone (t := (⟨t.pc, t.fu, t.st, t.R, t.kd, t.mi, t.mn, (.slice As xs.length cs), (.slice Ab bs.length cb), (.slice An ns.length cn), t.old⟩ : Th)) (A := (some ad)) (n := 20) (c := cc) hd (by omega) W3) (by kernel_rfl) (by kernel_rfl) ?_
    rintro _ W4 ⟨rfl, hB⟩
    have hW := hW.step hB
    refine ⟨_, (lo2_a27 t xs bs ns As cs Ab cb An cn l ad cc g1), rfl, by kernel_rfl, ?_⟩
    refine sk (a' := (lo2_a29 t xs bs ns As cs Ab cb An cn l ad cc g1)) (.bool false) ?_
    refine wpList_nil ?_
    refine wp_seq ?_
    refine wp_region_list ?_
    refine se (a' := (lo2_a31 t xs bs ns As cs Ab cb An cn l ad cc g1)) (.agg (lo2_c0 t xs bs ns As cs Ab cb An cn)) (evA hW 0 0 Try.underlying32) ?_
    refine sk (a' := (lo2_a33 t xs bs ns As cs Ab cb An cn l ad cc g1)) (.slice (some ad) 20 cc) ?_
    refine st_call (th_Next_c (t := (⟨t.pc, t.fu, t.st, t.R, t.kd, t.mi, t.mn, (.slice As xs.length cs), (.slice Ab bs.length cb), (.slice An ns.length cn), t.old⟩ : Th)) (ad := ad) (n := 20) (cc := cc) (by omega) hd hk hp W4 (hcode.below hW.below)) (by kernel_rfl) (by kernel_rfl) ?_
    rintro _ W5 ⟨rfl, hB⟩
    have hW := hW.step hB
    refine ⟨_, (lo2_a35 t xs bs ns As cs Ab cb An cn l ad cc o ia ib ic id_ g1), rfl, by kernel_rfl, ?_⟩
    refine sk (a' := (lo2_a37 t xs bs ns As cs Ab cb An cn l ad cc o ia ib ic id_ g1)) (.tuple #[.agg #[.int .i64 o, .int .i64 ia, .int .i64 ib, .int .i64 ic, .int .i64 id_], .bool true]) ?_
    refine sk (a' := (lo2_a39 t xs bs ns As cs Ab cb An cn l ad cc o ia ib ic id_ g1)) (.agg #[.int .i64 o, .int .i64 ia, .int .i64 ib, .int .i64 ic, .int .i64 id_]) ?_
    refine sk (a' := (lo2_a41 t xs bs ns As cs Ab cb An cn l ad cc o ia ib ic id_ g1)) (.bool true) ?_
    obtain ⟨g6, W7, hr, hW, hbb, hge⟩ := hW.mk1 (P := Try.prog) (s := Instr.alloc 45 true (.tuple #[])) #[.int .i64 0, .int .i64 0, .int .i64 0, .int .i64 0, .int .i64 0] 45 (by kernel_rfl)
    refine se (a' := (lo2_a43 t xs bs ns As cs Ab cb An cn l ad cc o ia ib ic id_ g1 g6)) (.pointer (some ⟨g6, 0, none⟩)) (Eq.trans (b := (do pure (Next.value (← Instr.alloc 45 true (.tuple #[]))) : Sem Next).run Try.prog W5) (by kernel_rfl) (st_val hr)) ?_
    obtain ⟨W8, hr, hW, hF⟩ := hW.storeN (P := Try.prog) (o := 0) (cs' := #[.int .i64 o, .int .i64 ia, .int .i64 ib, .int .i64 ic, .int .i64 id_]) (L' := [(g6, 45, #[.int .i64 o, .int .i64 ia, .int .i64 ib, .int .i64 ic, .int .i64 id_]), (g1, 32, (lo2_c0 t xs bs ns As cs Ab cb An cn))]) 0 rfl #[.int .i64 o, .int .i64 ia, .int .i64 ib, .int .i64 ic, .int .i64 id_] (by kernel_rfl) (Nat.le_of_ble_eq_true rfl) (by kernel_rfl) rfl 45 (by kernel_rfl)
    refine st_none (w' := W8) (a' := (lo2_a43 t xs bs ns As cs Ab cb An cn l ad cc o ia ib ic id_ g1 g6)) (by kernel_rfl) (Eq.trans (b := (do Instr.storeAt 45 (.pointer (some ⟨g6, 0, none⟩)) (.agg #[.int .i64 o, .int .i64 ia, .int .i64 ib, .int .i64 ic, .int .i64 id_]); pure Next.skip : Sem Next).run Try.prog W7) (by kernel_rfl) (st_unit hr)) (by kernel_rfl) ?_
    refine sk (a' := (lo2_a45 t xs bs ns As cs Ab cb An cn l ad cc o ia ib ic id_ g1 g6)) (.bool true) ?_
    refine wpList_nil ?_
    refine wp_seq ?_
    refine wp_seq ?_
    refine wp_region_list ?_
    refine se (a' := (lo2_a47 t xs bs ns As cs Ab cb An cn l ad cc o ia ib ic id_ g1 g6)) (.agg (lo2_c0 t xs bs ns As cs Ab cb An cn)) (evA hW 1 0 Try.underlying32) ?_
    refine sk (a' := (lo2_a49 t xs bs ns As cs Ab cb An cn l ad cc o ia ib ic id_ g1 g6)) (.slice (some ad) 20 cc) ?_
    refine st_call (th_Doneb (t := (⟨t.pc, t.fu, t.st, t.R, t.kd, t.mi, t.mn, (.slice As xs.length cs), (.slice Ab bs.length cb), (.slice An ns.length cn), t.old⟩ : Th)) (A := (some ad)) (n := 20) (c := cc) hd (by omega) W8) (by kernel_rfl) (by kernel_rfl) ?_
    rintro _ W9 ⟨rfl, hB⟩
    have hW := hW.step hB
    refine ⟨_, (lo2_a51 t xs bs ns As cs Ab cb An cn l ad cc o ia ib ic id_ g1 g6), rfl, by kernel_rfl, ?_⟩
    refine sk (a' := (lo2_a53 t xs bs ns As cs Ab cb An cn l ad cc o ia ib ic id_ g1 g6)) (.bool false) ?_
    refine sk (a' := (lo2_a55 t xs bs ns As cs Ab cb An cn l ad cc o ia ib ic id_ g1 g6)) (.bool false) ?_
    refine sk (a' := (lo2_a57 t xs bs ns As cs Ab cb An cn l ad cc o ia ib ic id_ g1 g6)) (.bool false) ?_
    refine sk (a' := (lo2_a59 t xs bs ns As cs Ab cb An cn l ad cc o ia ib ic id_ g1 g6)) (.bool true) ?_
    refine sk (a' := (lo2_a61 t xs bs ns As cs Ab cb An cn l ad cc o ia ib ic id_ g1 g6)) (.bool false) ?_
    refine sk (a' := (lo2_a63 t xs bs ns As cs Ab cb An cn l ad cc o ia ib ic id_ g1 g6)) (.bool true) ?_
    refine sk (a' := (lo2_a65 t xs bs ns As cs Ab cb An cn l ad cc o ia ib ic id_ g1 g6)) (.bool true) ?_
    refine sk (a' := (lo2_a67 t xs bs ns As cs Ab cb An cn l ad cc o ia ib ic id_ g1 g6)) (.pointer (some ⟨g1, 15, none⟩)) ?_
    refine sk (a' := (lo2_a69 t xs bs ns As cs Ab cb An cn l ad cc o ia ib ic id_ g1 g6)) (.pointer (some ⟨g1, 15, none⟩)) ?_
    refine se (a' := (lo2_a71 t xs bs ns As cs Ab cb An cn l ad cc o ia ib ic id_ g1 g6)) (.int .i64 t.kd) (ev1 hW 1 15 Try.underlying3) ?_
    refine se (a' := (lo2_a73 t xs bs ns As cs Ab cb An cn l ad cc o ia ib ic id_ g1 g6)) (.bool true) (Eq.trans (b := .ok (.value (.bool ((t.kd : Int) == 0))) W9) (by kernel_rfl) (st_ok (beq_iff_eq.2 (by omega)))) ?_
    refine sk (a' := (lo2_a75 t xs bs ns As cs Ab cb An cn l ad cc o ia ib ic id_ g1 g6)) (.bool true) ?_
    refine sk (a' := (lo2_a77 t xs bs ns As cs Ab cb An cn l ad cc o ia ib ic id_ g1 g6)) (.bool false) ?_
    refine sk (a' := (lo2_a79 t xs bs ns As cs Ab cb An cn l ad cc o ia ib ic id_ g1 g6)) (.bool false) ?_
    refine wpList_nil ?_
    refine wp_cond (t := false) (by kernel_rfl) ?_
    refine wp_skip ?_
    refine wp_seq ?_
    have hW := hW.drew
    refine wp_region_held_drew (S := fun W => Ws w W [(g6, 45, #[.int .i64 o, .int .i64 ia, .int .i64 ib, .int .i64 ic, .int .i64 id_]), (g1, 32, (lo2_c0 t xs bs ns As cs Ab cb An cn))]) (by kernel_rfl) hW (fun _ => ?_)
    refine dk (a' := (lo2_a81 t xs bs ns As cs Ab cb An cn l ad cc o ia ib ic id_ g1 g6)) 0 (.bool true) hW ?_
    refine dk (a' := (lo2_a83 t xs bs ns As cs Ab cb An cn l ad cc o ia ib ic id_ g1 g6)) 1 (.bool true) hW ?_
    refine de (a' := (lo2_a85 t xs bs ns As cs Ab cb An cn l ad cc o ia ib ic id_ g1 g6)) 2 (.agg #[.int .i64 o, .int .i64 ia, .int .i64 ib, .int .i64 ic, .int .i64 id_]) rfl (fun W hH => (evA hH 0 0 Try.underlying45)) hW ?_
    refine dk (a' := (lo2_a87 t xs bs ns As cs Ab cb An cn l ad cc o ia ib ic id_ g1 g6)) 3 (.slice (some ad) 20 cc) hW ?_
    refine dk (a' := (lo2_a89 t xs bs ns As cs Ab cb An cn l ad cc o ia ib ic id_ g1 g6)) 4 (.pointer (some ⟨g1, 0, none⟩)) hW ?_
    refine de (a' := (lo2_a91 t xs bs ns As cs Ab cb An cn l ad cc o ia ib ic id_ g1 g6)) 5 (.int .i64 t.pc) rfl (fun W hH => (ev1 hH 1 0 Try.underlying3)) hW ?_
    refine de (a' := (lo2_a93 t xs bs ns As cs Ab cb An cn l ad cc o ia ib ic id_ g1 g6)) 6 (.pointer (some (ad.add (t.pc.toNat * 5)))) rfl (fun W hH => (Eq.trans (b := (do pure (Next.value (← Instr.indexAt 49 (.slice (some ad) 20 cc) (.int .i64 t.pc))) : Sem Next).run Try.prog W) (by kernel_rfl) (st_val (idx_code hp.1 hp.2 W)))) hW ?_
    refine de (a' := (lo2_a95 t xs bs ns As cs Ab cb An cn l ad cc o ia ib ic id_ g1 g6)) 7 (.agg #[.int .i64 o, .int .i64 ia, .int .i64 ib, .int .i64 ic, .int .i64 id_]) rfl (fun W hH => (Eq.trans (b := (do pure (Next.value (← Instr.loadAt 45 (.pointer (some (ad.add (t.pc.toNat * 5)))))) : Sem Next).run Try.prog W) (by kernel_rfl) (st_val (load_row W _ 45 _ _ (hcode.below hH.below).cell Try.underlying45 rfl (by kernel_rfl))))) hW ?_
    refine de (a' := (lo2_a97 t xs bs ns As cs Ab cb An cn l ad cc o ia ib ic id_ g1 g6)) 8 (.bool true) rfl (fun W hH => (Eq.trans (b := (do pure (Next.value (← (do pure (Value.bool (← Op.equal 45 (.agg #[.int .i64 o, .int .i64 ia, .int .i64 ib, .int .i64 ic, .int .i64 id_]) (.agg #[.int .i64 o, .int .i64 ia, .int .i64 ib, .int .i64 ic, .int .i64 id_]))) : Sem Value))) : Sem Next).run Try.prog W) (by kernel_rfl) (st_val (st_valb (five_eq o ia ib ic id_ W))))) hW ?_
    refine dk (a' := (lo2_a99 t xs bs ns As cs Ab cb An cn l ad cc o ia ib ic id_ g1 g6)) 9 (.bool true) hW ?_
    refine dk (a' := (lo2_a101 t xs bs ns As cs Ab cb An cn l ad cc o ia ib ic id_ g1 g6)) 10 (.bool true) hW ?_
    refine dr_skip 11 (a' := (lo2_a101 t xs bs ns As cs Ab cb An cn l ad cc o ia ib ic id_ g1 g6)) rfl (by kernel_rfl) (by kernel_rfl) (by kernel_rfl) (fun _ _ _ h => h) (by kernel_rfl) hW (by kernel_rfl) ?_
    refine dr_skip 12 (a' := (lo2_a101 t xs bs ns As cs Ab cb An cn l ad cc o ia ib ic id_ g1 g6)) rfl (by kernel_rfl) (by kernel_rfl) (by kernel_rfl) (fun _ _ _ h => h) (by kernel_rfl) hW (by kernel_rfl) ?_
    refine dr_skip 13 (a' := (lo2_a101 t xs bs ns As cs Ab cb An cn l ad cc o ia ib ic id_ g1 g6)) rfl (by kernel_rfl) (by kernel_rfl) (by kernel_rfl) (fun _ _ _ h => h) (by kernel_rfl) hW (by kernel_rfl) ?_
    refine dr_skip 14 (a' := (lo2_a101 t xs bs ns As cs Ab cb An cn l ad cc o ia ib ic id_ g1 g6)) rfl (by kernel_rfl) (by kernel_rfl) (by kernel_rfl) (fun _ _ _ h => h) (by kernel_rfl) hW (by kernel_rfl) ?_
    refine dr_skip 15 (a' := (lo2_a101 t xs bs ns As cs Ab cb An cn l ad cc o ia ib ic id_ g1 g6)) rfl (by kernel_rfl) (by kernel_rfl) (by kernel_rfl) (fun _ _ _ h => h) (by kernel_rfl) hW (by kernel_rfl) ?_
    refine dr_skip 16 (a' := (lo2_a101 t xs bs ns As cs Ab cb An cn l ad cc o ia ib ic id_ g1 g6)) rfl (by kernel_rfl) (by kernel_rfl) (by kernel_rfl) (fun _ _ _ h => h) (by kernel_rfl) hW (by kernel_rfl) ?_
    refine dr_skip 17 (a' := (lo2_a101 t xs bs ns As cs Ab cb An cn l ad cc o ia ib ic id_ g1 g6)) rfl (by kernel_rfl) (by kernel_rfl) (by kernel_rfl) (fun _ _ _ h => h) (by kernel_rfl) hW (by kernel_rfl) ?_
    refine dk (a' := (lo2_a103 t xs bs ns As cs Ab cb An cn l ad cc o ia ib ic id_ g1 g6)) 18 (.bool true) hW ?_
    refine dk (a' := (lo2_a105 t xs bs ns As cs Ab cb An cn l ad cc o ia ib ic id_ g1 g6)) 19 (.bool true) hW ?_
    refine wpAnyH_done (by kernel_rfl) ?_ _
    refine wp_ret ?_
    (try simp only [Exit.then, Exit.inBlock])
    change bodyPost Try.prog Try.f6 _ .ret _ _
    refine bodyPost_ret (results_tmp rfl _ _ _) rfl ?_
    exact ⟨rfl, hW.below⟩
  · skip
    have hl20 : ¬ (l.length : Int) > 20 := by omega
    refine calls_of_wp Try.func6 rfl ?_
    have hW := Ws.nil w
    refine wp_seq ?_
    refine wp_region_list ?_
    obtain ⟨g1, W2, hr, hW, hbb, hge⟩ := hW.mk1 (P := Try.prog) (s := Instr.box 32 (.agg (lo3_c0 t xs bs ns As cs Ab cb An cn))) (lo3_c0 t xs bs ns As cs Ab cb An cn) 32 (by kernel_rfl)
    refine se (a' := (lo3_a1 t xs bs ns As cs Ab cb An cn l A cc g1)) (.pointer (some ⟨g1, 0, none⟩)) (Eq.trans (b := (do pure (Next.value (← Instr.box 32 (.agg (lo3_c0 t xs bs ns As cs Ab cb An cn)))) : Sem Next).run Try.prog w) (by kernel_rfl) (st_val hr)) ?_
    refine sk (a' := (lo3_a5 t xs bs ns As cs Ab cb An cn l A cc g1)) (.bool false) ?_
    refine wpList_nil ?_
    refine wp_seq ?_
    refine wp_seq ?_
    refine wp_region_list ?_
    refine st_call (th_alive W2) (by kernel_rfl) (by kernel_rfl) ?_
    rintro _ W3 ⟨rfl, hB⟩
    have hW := hW.step hB
    refine ⟨_, (lo3_a7 t xs bs ns As cs Ab cb An cn l A cc g1), rfl, by kernel_rfl, ?_⟩
    refine sk (a' := (lo3_a9 t xs bs ns As cs Ab cb An cn l A cc g1)) (.bool false) ?_
    refine wpList_nil ?_
    refine wp_cond (t := false) (by kernel_rfl) ?_
    refine wp_skip ?_
    refine wp_seq ?_
    refine wp_seq ?_
    refine wp_region_list ?_
    refine sk (a' := (lo3_a11 t xs bs ns As cs Ab cb An cn l A cc g1)) (.slice A l.length cc) ?_
    refine sk (a' := (lo3_a13 t xs bs ns As cs Ab cb An cn l A cc g1)) (.int .i64 (l.length : Int)) ?_
    refine se (a' := (lo3_a15 t xs bs ns As cs Ab cb An cn l A cc g1)) (.bool false) (Eq.trans (b := .ok (.value (.bool (decide (((l.length : Int) : Int) > 20)))) W3) (by kernel_rfl) (st_ok (decide_eq_false (by omega)))) ?_
    refine wpList_nil ?_
    refine wp_cond (t := false) (by kernel_rfl) ?_
    refine wp_skip ?_
    refine wp_seq ?_
    refine wp_region_list ?_
    refine se (a' := (lo3_a17 t xs bs ns As cs Ab cb An cn l A cc g1)) (.agg (lo3_c0 t xs bs ns As cs Ab cb An cn)) (evA hW 0 0 Try.underlying32) ?_
    refine sk (a' := (lo3_a19 t xs bs ns As cs Ab cb An cn l A cc g1)) (.slice A l.length cc) ?_
    refine st_call (th_rDone (t := (⟨t.pc, t.fu, t.st, t.R, t.kd, t.mi, t.mn, (.slice As xs.length cs), (.slice Ab bs.length cb), (.slice An ns.length cn), t.old⟩ : Th)) (A := A) (n := l.length) (c := cc) hd (by omega) W3) (by kernel_rfl) (by kernel_rfl) ?_
    rintro _ W4 ⟨rfl, hB⟩
    have hW := hW.step hB
    refine ⟨_, (lo3_a21 t xs bs ns As cs Ab cb An cn l A cc g1), rfl, by kernel_rfl, ?_⟩
    refine sk (a' := (lo3_a23 t xs bs ns As cs Ab cb An cn l A cc g1)) (.bool true) ?_
    refine wpList_nil ?_
    refine wp_seq ?_
    refine wp_region_list ?_
    refine se (a' := (lo3_a25 t xs bs ns As cs Ab cb An cn l A cc g1)) (.agg (lo3_c0 t xs bs ns As cs Ab cb An cn)) (evA hW 0 0 Try.underlying32) ?_
    refine sk (a' := (lo3_a27 t xs bs ns As cs Ab cb An cn l A cc g1)) (.slice A l.length cc) ?_
    refine st_call (th_Next_a (t := (⟨t.pc, t.fu, t.st, t.R, t.kd, t.mi, t.mn, (.slice As xs.length cs), (.slice Ab bs.length cb), (.slice An ns.length cn), t.old⟩ : Th)) (A := A) (n := l.length) (cc := cc) (by omega) hd W4) (by kernel_rfl) (by kernel_rfl) ?_
    rintro _ W5 ⟨rfl, hB⟩
    have hW := hW.step hB
    refine ⟨_, (lo3_a29 t xs bs ns As cs Ab cb An cn l A cc g1), rfl, by kernel_rfl, ?_⟩
    refine sk (a' := (lo3_a31 t xs bs ns As cs Ab cb An cn l A cc g1)) (.tuple #[.agg #[.int .i64 0, .int .i64 0, .int .i64 0, .int .i64 0, .int .i64 0], .bool false]) ?_
    refine sk (a' := (lo3_a33 t xs bs ns As cs Ab cb An cn l A cc g1)) (.agg #[.int .i64 0, .int .i64 0, .int .i64 0, .int .i64 0, .int .i64 0]) ?_
    refine sk (a' := (lo3_a35 t xs bs ns As cs Ab cb An cn l A cc g1)) (.bool false) ?_
    obtain ⟨g6, W7, hr, hW, hbb, hge⟩ := hW.mk1 (P := Try.prog) (s := Instr.alloc 45 true (.tuple #[])) #[.int .i64 0, .int .i64 0, .int .i64 0, .int .i64 0, .int .i64 0] 45 (by kernel_rfl)
    refine se (a' := (lo3_a37 t xs bs ns As cs Ab cb An cn l A cc g1 g6)) (.pointer (some ⟨g6, 0, none⟩)) (Eq.trans (b := (do pure (Next.value (← Instr.alloc 45 true (.tuple #[]))) : Sem Next).run Try.prog W5) (by kernel_rfl) (st_val hr)) ?_
    obtain ⟨W8, hr, hW, hF⟩ := hW.storeN (P := Try.prog) (o := 0) (cs' := #[.int .i64 0, .int .i64 0, .int .i64 0, .int .i64 0, .int .i64 0]) (L' := [(g6, 45, #[.int .i64 0, .int .i64 0, .int .i64 0, .int .i64 0, .int .i64 0]), (g1, 32, (lo3_c0 t xs bs ns As cs Ab cb An cn))]) 0 rfl #[.int .i64 0, .int .i64 0, .int .i64 0, .int .i64 0, .int .i64 0] (by kernel_rfl) (Nat.le_of_ble_eq_true rfl) (by kernel_rfl) rfl 45 (by kernel_rfl)
    refine st_none (w' := W8) (a' := (lo3_a37 t xs bs ns As cs Ab cb An cn l A cc g1 g6)) (by kernel_rfl) (Eq.trans (b := (do Instr.storeAt 45 (.pointer (some ⟨g6, 0, none⟩)) (.agg #[.int .i64 0, .int .i64 0, .int .i64 0, .int .i64 0, .int .i64 0]); pure Next.skip : Sem Next).run Try.prog W7) (by kernel_rfl) (st_unit hr)) (by kernel_rfl) ?_
    refine sk (a' := (lo3_a39 t xs bs ns As cs Ab cb An cn l A cc g1 g6)) (.bool false) ?_
    refine wpList_nil ?_
    refine wp_seq ?_
    refine wp_seq ?_
    refine wp_region_list ?_
    refine se (a' := (lo3_a41 t xs bs ns As cs Ab cb An cn l A cc g1 g6)) (.agg (lo3_c0 t xs bs ns As cs Ab cb An cn)) (evA hW 1 0 Try.underlying32) ?_
    refine sk (a' := (lo3_a43 t xs bs ns As cs Ab cb An cn l A cc g1 g6)) (.slice A l.length cc) ?_
    refine st_call (th_Doneb (t := (⟨t.pc, t.fu, t.st, t.R, t.kd, t.mi, t.mn, (.slice As xs.length cs), (.slice Ab bs.length cb), (.slice An ns.length cn), t.old⟩ : Th)) (A := A) (n := l.length) (c := cc) hd (by omega) W8) (by kernel_rfl) (by kernel_rfl) ?_
    rintro _ W9 ⟨rfl, hB⟩
    have hW := hW.step hB
    refine ⟨_, (lo3_a45 t xs bs ns As cs Ab cb An cn l A cc g1 g6), rfl, by kernel_rfl, ?_⟩
    refine sk (a' := (lo3_a47 t xs bs ns As cs Ab cb An cn l A cc g1 g6)) (.bool true) ?_
    refine sk (a' := (lo3_a49 t xs bs ns As cs Ab cb An cn l A cc g1 g6)) (.bool false) ?_
    refine sk (a' := (lo3_a51 t xs bs ns As cs Ab cb An cn l A cc g1 g6)) (.bool false) ?_
    refine sk (a' := (lo3_a53 t xs bs ns As cs Ab cb An cn l A cc g1 g6)) (.bool false) ?_
    refine sk (a' := (lo3_a55 t xs bs ns As cs Ab cb An cn l A cc g1 g6)) (.bool true) ?_
    refine sk (a' := (lo3_a57 t xs bs ns As cs Ab cb An cn l A cc g1 g6)) (.bool false) ?_
    refine st_ones (w' := W9) (a' := (lo3_a59 t xs bs ns As cs Ab cb An cn l A cc g1 g6)) (a2 := (lo3_a59 t xs bs ns As cs Ab cb An cn l A cc g1 g6)) 4 (.bool false) (by kernel_rfl) (by kernel_rfl) (by kernel_rfl) (by kernel_rfl) (by kernel_rfl) ?_
    refine sk (a' := (lo3_a61 t xs bs ns As cs Ab cb An cn l A cc g1 g6)) (.bool false) ?_
    refine sk (a' := (lo3_a63 t xs bs ns As cs Ab cb An cn l A cc g1 g6)) (.bool false) ?_
    refine sk (a' := (lo3_a65 t xs bs ns As cs Ab cb An cn l A cc g1 g6)) (.bool false) ?_
    refine wpList_nil ?_
    refine wp_cond (t := false) (by kernel_rfl) ?_
    refine wp_skip ?_
    refine wp_seq ?_
    have hW := hW.drew
    refine wp_region_held_drew (S := fun W => Ws w W [(g6, 45, #[.int .i64 0, .int .i64 0, .int .i64 0, .int .i64 0, .int .i64 0]), (g1, 32, (lo3_c0 t xs bs ns As cs Ab cb An cn))]) (by kernel_rfl) hW (fun _ => ?_)
    refine dk (a' := (lo3_a67 t xs bs ns As cs Ab cb An cn l A cc g1 g6)) 0 (.bool false) hW ?_
    refine dk (a' := (lo3_a69 t xs bs ns As cs Ab cb An cn l A cc g1 g6)) 1 (.bool false) hW ?_
    refine dr_skip 2 (a' := (lo3_a69 t xs bs ns As cs Ab cb An cn l A cc g1 g6)) rfl (by kernel_rfl) (by kernel_rfl) (by kernel_rfl) (fun _ _ _ h => h) (by kernel_rfl) hW (by kernel_rfl) ?_
    refine dr_skip 3 (a' := (lo3_a69 t xs bs ns As cs Ab cb An cn l A cc g1 g6)) rfl (by kernel_rfl) (by kernel_rfl) (by kernel_rfl) (fun _ _ _ h => h) (by kernel_rfl) hW (by kernel_rfl) ?_
    refine dr_skip 4 (a' := (lo3_a69 t xs bs ns As cs Ab cb An cn l A cc g1 g6)) rfl (by kernel_rfl) (by kernel_rfl) (by kernel_rfl) (fun _ _ _ h => h) (by kernel_rfl) hW (by kernel_rfl) ?_
    refine dr_skip 5 (a' := (lo3_a69 t xs bs ns As cs Ab cb An cn l A cc g1 g6)) rfl (by kernel_rfl) (by kernel_rfl) (by kernel_rfl) (fun _ _ _ h => h) (by kernel_rfl) hW (by kernel_rfl) ?_
    refine dr_skip 6 (a' := (lo3_a69 t xs bs ns As cs Ab cb An cn l A cc g1 g6)) rfl (by kernel_rfl) (by kernel_rfl) (by kernel_rfl) (fun _ _ _ h => h) (by kernel_rfl) hW (by kernel_rfl) ?_
    refine dr_skip 7 (a' := (lo3_a69 t xs bs ns As cs Ab cb An cn l A cc g1 g6)) rfl (by kernel_rfl) (by kernel_rfl) (by kernel_rfl) (fun _ _ _ h => h) (by kernel_rfl) hW (by kernel_rfl) ?_
    refine dr_skip 8 (a' := (lo3_a69 t xs bs ns As cs Ab cb An cn l A cc g1 g6)) rfl (by kernel_rfl) (by kernel_rfl) (by kernel_rfl) (fun _ _ _ h => h) (by kernel_rfl) hW (by kernel_rfl) ?_
    refine dk (a' := (lo3_a71 t xs bs ns As cs Ab cb An cn l A cc g1 g6)) 9 (.bool false) hW ?_
    refine dk (a' := (lo3_a73 t xs bs ns As cs Ab cb An cn l A cc g1 g6)) 10 (.bool false) hW ?_
    refine dk (a' := (lo3_a75 t xs bs ns As cs Ab cb An cn l A cc g1 g6)) 11 (.bool false) hW ?_
    refine dk (a' := (lo3_a77 t xs bs ns As cs Ab cb An cn l A cc g1 g6)) 12 (.bool true) hW ?_
    refine dk (a' := (lo3_a79 t xs bs ns As cs Ab cb An cn l A cc g1 g6)) 13 (.bool true) hW ?_
    refine de (a' := (lo3_a81 t xs bs ns As cs Ab cb An cn l A cc g1 g6)) 14 (.agg #[.int .i64 0, .int .i64 0, .int .i64 0, .int .i64 0, .int .i64 0]) rfl (fun W hH => (evA hH 0 0 Try.underlying45)) hW ?_
    refine de (a' := (lo3_a83 t xs bs ns As cs Ab cb An cn l A cc g1 g6)) 15 (.agg #[.int .i64 0, .int .i64 0, .int .i64 0, .int .i64 0, .int .i64 0]) rfl (fun W hH => by kernel_rfl) hW ?_
    refine de (a' := (lo3_a85 t xs bs ns As cs Ab cb An cn l A cc g1 g6)) 16 (.bool true) rfl (fun W hH => (Eq.trans (b := (do pure (Next.value (← (do pure (Value.bool (← Op.equal 45 (.agg #[.int .i64 0, .int .i64 0, .int .i64 0, .int .i64 0, .int .i64 0]) (.agg #[.int .i64 0, .int .i64 0, .int .i64 0, .int .i64 0, .int .i64 0]))) : Sem Value))) : Sem Next).run Try.prog W) (by kernel_rfl) (st_val (st_valb (five_eq 0 0 0 0 0 W))))) hW ?_
    refine dk (a' := (lo3_a87 t xs bs ns As cs Ab cb An cn l A cc g1 g6)) 17 (.bool true) hW ?_
    refine dk (a' := (lo3_a89 t xs bs ns As cs Ab cb An cn l A cc g1 g6)) 18 (.bool true) hW ?_
    refine dk (a' := (lo3_a91 t xs bs ns As cs Ab cb An cn l A cc g1 g6)) 19 (.bool true) hW ?_
    refine wpAnyH_done (by kernel_rfl) ?_ _
    refine wp_ret ?_
    (try simp only [Exit.then, Exit.inBlock])
    change bodyPost Try.prog Try.f6 _ .ret _ _
    refine bodyPost_ret (results_tmp rfl _ _ _) rfl ?_
    exact ⟨rfl, hW.below⟩
  · skip
    have hl20 : ¬ (l.length : Int) > 20 := by omega
    refine calls_of_wp Try.func6 rfl ?_
    have hW := Ws.nil w
    refine wp_seq ?_
    refine wp_region_list ?_
    obtain ⟨g1, W2, hr, hW, hbb, hge⟩ := hW.mk1 (P := Try.prog) (s := Instr.box 32 (.agg (lo4_c0 t xs bs ns As cs Ab cb An cn))) (lo4_c0 t xs bs ns As cs Ab cb An cn) 32 (by kernel_rfl)
    refine se (a' := (lo4_a1 t xs bs ns As cs Ab cb An cn l A cc g1)) (.pointer (some ⟨g1, 0, none⟩)) (Eq.trans (b := (do pure (Next.value (← Instr.box 32 (.agg (lo4_c0 t xs bs ns As cs Ab cb An cn)))) : Sem Next).run Try.prog w) (by kernel_rfl) (st_val hr)) ?_
    refine sk (a' := (lo4_a5 t xs bs ns As cs Ab cb An cn l A cc g1)) (.bool false) ?_
    refine wpList_nil ?_
    refine wp_seq ?_
    refine wp_seq ?_
    refine wp_region_list ?_
    refine st_call (th_alive W2) (by kernel_rfl) (by kernel_rfl) ?_
    rintro _ W3 ⟨rfl, hB⟩
    have hW := hW.step hB
    refine ⟨_, (lo4_a7 t xs bs ns As cs Ab cb An cn l A cc g1), rfl, by kernel_rfl, ?_⟩
    refine sk (a' := (lo4_a9 t xs bs ns As cs Ab cb An cn l A cc g1)) (.bool false) ?_
    refine wpList_nil ?_
    refine wp_cond (t := false) (by kernel_rfl) ?_
    refine wp_skip ?_
    refine wp_seq ?_
    refine wp_seq ?_
    refine wp_region_list ?_
    refine sk (a' := (lo4_a11 t xs bs ns As cs Ab cb An cn l A cc g1)) (.slice A l.length cc) ?_
    refine sk (a' := (lo4_a13 t xs bs ns As cs Ab cb An cn l A cc g1)) (.int .i64 (l.length : Int)) ?_
    refine se (a' := (lo4_a15 t xs bs ns As cs Ab cb An cn l A cc g1)) (.bool false) (Eq.trans (b := .ok (.value (.bool (decide (((l.length : Int) : Int) > 20)))) W3) (by kernel_rfl) (st_ok (decide_eq_false (by omega)))) ?_
    refine wpList_nil ?_
    refine wp_cond (t := false) (by kernel_rfl) ?_
    refine wp_skip ?_
    refine wp_seq ?_
    refine wp_region_list ?_
    refine se (a' := (lo4_a17 t xs bs ns As cs Ab cb An cn l A cc g1)) (.agg (lo4_c0 t xs bs ns As cs Ab cb An cn)) (evA hW 0 0 Try.underlying32) ?_
    refine sk (a' := (lo4_a19 t xs bs ns As cs Ab cb An cn l A cc g1)) (.slice A l.length cc) ?_
    refine st_call (th_rDone (t := (⟨t.pc, t.fu, t.st, t.R, t.kd, t.mi, t.mn, (.slice As xs.length cs), (.slice Ab bs.length cb), (.slice An ns.length cn), t.old⟩ : Th)) (A := A) (n := l.length) (c := cc) hd (by omega) W3) (by kernel_rfl) (by kernel_rfl) ?_
    rintro _ W4 ⟨rfl, hB⟩
    have hW := hW.step hB
    refine ⟨_, (lo4_a21 t xs bs ns As cs Ab cb An cn l A cc g1), rfl, by kernel_rfl, ?_⟩
    refine sk (a' := (lo4_a23 t xs bs ns As cs Ab cb An cn l A cc g1)) (.bool false) ?_
    refine wpList_nil ?_
    refine wp_seq ?_
    refine wp_region_list ?_
    refine se (a' := (lo4_a25 t xs bs ns As cs Ab cb An cn l A cc g1)) (.agg (lo4_c0 t xs bs ns As cs Ab cb An cn)) (evA hW 0 0 Try.underlying32) ?_
    refine sk (a' := (lo4_a27 t xs bs ns As cs Ab cb An cn l A cc g1)) (.slice A l.length cc) ?_
    refine st_call (th_Next_b (t := (⟨t.pc, t.fu, t.st, t.R, t.kd, t.mi, t.mn, (.slice As xs.length cs), (.slice Ab bs.length cb), (.slice An ns.length cn), t.old⟩ : Th)) (A := A) (n := l.length) (cc := cc) (by omega) hd hk W4) (by kernel_rfl) (by kernel_rfl) ?_
    rintro _ W5 ⟨rfl, hB⟩
    have hW := hW.step hB
    refine ⟨_, (lo4_a29 t xs bs ns As cs Ab cb An cn l A cc g1), rfl, by kernel_rfl, ?_⟩
    refine sk (a' := (lo4_a31 t xs bs ns As cs Ab cb An cn l A cc g1)) (.tuple #[.agg #[.int .i64 0, .int .i64 0, .int .i64 0, .int .i64 0, .int .i64 0], .bool false]) ?_
    refine sk (a' := (lo4_a33 t xs bs ns As cs Ab cb An cn l A cc g1)) (.agg #[.int .i64 0, .int .i64 0, .int .i64 0, .int .i64 0, .int .i64 0]) ?_
    refine sk (a' := (lo4_a35 t xs bs ns As cs Ab cb An cn l A cc g1)) (.bool false) ?_
    obtain ⟨g6, W7, hr, hW, hbb, hge⟩ := hW.mk1 (P := Try.prog) (s := Instr.alloc 45 true (.tuple #[])) #[.int .i64 0, .int .i64 0, .int .i64 0, .int .i64 0, .int .i64 0] 45 (by kernel_rfl)
    refine se (a' := (lo4_a37 t xs bs ns As cs Ab cb An cn l A cc g1 g6)) (.pointer (some ⟨g6, 0, none⟩)) (Eq.trans (b := (do pure (Next.value (← Instr.alloc 45 true (.tuple #[]))) : Sem Next).run Try.prog W5) (by kernel_rfl) (st_val hr)) ?_
    obtain ⟨W8, hr, hW, hF⟩ := hW.storeN (P := Try.prog) (o := 0) (cs' := #[.int .i64 0, .int .i64 0, .int .i64 0, .int .i64 0, .int .i64 0]) (L' := [(g6, 45, #[.int .i64 0, .int .i64 0, .int .i64 0, .int .i64 0, .int .i64 0]), (g1, 32, (lo4_c0 t xs bs ns As cs Ab cb An cn))]) 0 rfl #[.int .i64 0, .int .i64 0, .int .i64 0, .int .i64 0, .int .i64 0] (by kernel_rfl) (Nat.le_of_ble_eq_true rfl) (by kernel_rfl) rfl 45 (by kernel_rfl)
    refine st_none (w' := W8) (a' := (lo4_a37 t xs bs ns As cs Ab cb An cn l A cc g1 g6)) (by kernel_rfl) (Eq.trans (b := (do Instr.storeAt 45 (.pointer (some ⟨g6, 0, none⟩)) (.agg #[.int .i64 0, .int .i64 0, .int .i64 0, .int .i64 0, .int .i64 0]); pure Next.skip : Sem Next).run Try.prog W7) (by kernel_rfl) (st_unit hr)) (by kernel_rfl) ?_
    refine sk (a' := (lo4_a39 t xs bs ns As cs Ab cb An cn l A cc g1 g6)) (.bool false) ?_
    refine wpList_nil ?_
    refine wp_seq ?_
    refine wp_seq ?_
    refine wp_region_list ?_
    refine se (a' := (lo4_a41 t xs bs ns As cs Ab cb An cn l A cc g1 g6)) (.agg (lo4_c0 t xs bs ns As cs Ab cb An cn)) (evA hW 1 0 Try.underlying32) ?_
    refine sk (a' := (lo4_a43 t xs bs ns As cs Ab cb An cn l A cc g1 g6)) (.slice A l.length cc) ?_
    refine st_call (th_Doneb (t := (⟨t.pc, t.fu, t.st, t.R, t.kd, t.mi, t.mn, (.slice As xs.length cs), (.slice Ab bs.length cb), (.slice An ns.length cn), t.old⟩ : Th)) (A := A) (n := l.length) (c := cc) hd (by omega) W8) (by kernel_rfl) (by kernel_rfl) ?_
    rintro _ W9 ⟨rfl, hB⟩
    have hW := hW.step hB
    refine ⟨_, (lo4_a45 t xs bs ns As cs Ab cb An cn l A cc g1 g6), rfl, by kernel_rfl, ?_⟩
    refine sk (a' := (lo4_a47 t xs bs ns As cs Ab cb An cn l A cc g1 g6)) (.bool false) ?_
    refine sk (a' := (lo4_a49 t xs bs ns As cs Ab cb An cn l A cc g1 g6)) (.bool false) ?_
    refine sk (a' := (lo4_a51 t xs bs ns As cs Ab cb An cn l A cc g1 g6)) (.bool false) ?_
    refine sk (a' := (lo4_a53 t xs bs ns As cs Ab cb An cn l A cc g1 g6)) (.bool false) ?_
    refine sk (a' := (lo4_a55 t xs bs ns As cs Ab cb An cn l A cc g1 g6)) (.bool false) ?_
    refine sk (a' := (lo4_a57 t xs bs ns As cs Ab cb An cn l A cc g1 g6)) (.bool true) ?_
    refine sk (a' := (lo4_a59 t xs bs ns As cs Ab cb An cn l A cc g1 g6)) (.bool true) ?_
    refine sk (a' := (lo4_a61 t xs bs ns As cs Ab cb An cn l A cc g1 g6)) (.pointer (some ⟨g1, 15, none⟩)) ?_
    refine sk (a' := (lo4_a63 t xs bs ns As cs Ab cb An cn l A cc g1 g6)) (.pointer (some ⟨g1, 15, none⟩)) ?_
    refine se (a' := (lo4_a65 t xs bs ns As cs Ab cb An cn l A cc g1 g6)) (.int .i64 t.kd) (ev1 hW 1 15 Try.underlying3) ?_
    refine se (a' := (lo4_a67 t xs bs ns As cs Ab cb An cn l A cc g1 g6)) (.bool false) (Eq.trans (b := .ok (.value (.bool ((t.kd : Int) == 0))) W9) (by kernel_rfl) (st_ok (beq_eq_false_iff_ne.2 (by omega)))) ?_
    refine sk (a' := (lo4_a69 t xs bs ns As cs Ab cb An cn l A cc g1 g6)) (.bool false) ?_
    refine sk (a' := (lo4_a71 t xs bs ns As cs Ab cb An cn l A cc g1 g6)) (.bool false) ?_
    refine sk (a' := (lo4_a73 t xs bs ns As cs Ab cb An cn l A cc g1 g6)) (.bool false) ?_
    refine wpList_nil ?_
    refine wp_cond (t := false) (by kernel_rfl) ?_
    refine wp_skip ?_
    refine wp_seq ?_
    have hW := hW.drew
    refine wp_region_held_drew (S := fun W => Ws w W [(g6, 45, #[.int .i64 0, .int .i64 0, .int .i64 0, .int .i64 0, .int .i64 0]), (g1, 32, (lo4_c0 t xs bs ns As cs Ab cb An cn))]) (by kernel_rfl) hW (fun _ => ?_)
    refine dk (a' := (lo4_a75 t xs bs ns As cs Ab cb An cn l A cc g1 g6)) 0 (.bool false) hW ?_
    refine dk (a' := (lo4_a77 t xs bs ns As cs Ab cb An cn l A cc g1 g6)) 1 (.bool false) hW ?_
    refine dr_skip 2 (a' := (lo4_a77 t xs bs ns As cs Ab cb An cn l A cc g1 g6)) rfl (by kernel_rfl) (by kernel_rfl) (by kernel_rfl) (fun _ _ _ h => h) (by kernel_rfl) hW (by kernel_rfl) ?_
    refine dr_skip 3 (a' := (lo4_a77 t xs bs ns As cs Ab cb An cn l A cc g1 g6)) rfl (by kernel_rfl) (by kernel_rfl) (by kernel_rfl) (fun _ _ _ h => h) (by kernel_rfl) hW (by kernel_rfl) ?_
    refine dr_skip 4 (a' := (lo4_a77 t xs bs ns As cs Ab cb An cn l A cc g1 g6)) rfl (by kernel_rfl) (by kernel_rfl) (by kernel_rfl) (fun _ _ _ h => h) (by kernel_rfl) hW (by kernel_rfl) ?_
    refine dr_skip 5 (a' := (lo4_a77 t xs bs ns As cs Ab cb An cn l A cc g1 g6)) rfl (by kernel_rfl) (by kernel_rfl) (by kernel_rfl) (fun _ _ _ h => h) (by kernel_rfl) hW (by kernel_rfl) ?_
    refine dr_skip 6 (a' := (lo4_a77 t xs bs ns As cs Ab cb An cn l A cc g1 g6)) rfl (by kernel_rfl) (by kernel_rfl) (by kernel_rfl) (fun _ _ _ h => h) (by kernel_rfl) hW (by kernel_rfl) ?_
    refine dr_skip 7 (a' := (lo4_a77 t xs bs ns As cs Ab cb An cn l A cc g1 g6)) rfl (by kernel_rfl) (by kernel_rfl) (by kernel_rfl) (fun _ _ _ h => h) (by kernel_rfl) hW (by kernel_rfl) ?_
    refine dr_skip 8 (a' := (lo4_a77 t xs bs ns As cs Ab cb An cn l A cc g1 g6)) rfl (by kernel_rfl) (by kernel_rfl) (by kernel_rfl) (fun _ _ _ h => h) (by kernel_rfl) hW (by kernel_rfl) ?_
    refine dk (a' := (lo4_a79 t xs bs ns As cs Ab cb An cn l A cc g1 g6)) 9 (.bool false) hW ?_
    refine dk (a' := (lo4_a81 t xs bs ns As cs Ab cb An cn l A cc g1 g6)) 10 (.bool false) hW ?_
    refine dk (a' := (lo4_a83 t xs bs ns As cs Ab cb An cn l A cc g1 g6)) 11 (.bool false) hW ?_
    refine dk (a' := (lo4_a85 t xs bs ns As cs Ab cb An cn l A cc g1 g6)) 12 (.bool true) hW ?_
    refine dk (a' := (lo4_a87 t xs bs ns As cs Ab cb An cn l A cc g1 g6)) 13 (.bool true) hW ?_
    refine de (a' := (lo4_a89 t xs bs ns As cs Ab cb An cn l A cc g1 g6)) 14 (.agg #[.int .i64 0, .int .i64 0, .int .i64 0, .int .i64 0, .int .i64 0]) rfl (fun W hH => (evA hH 0 0 Try.underlying45)) hW ?_
    refine de (a' := (lo4_a91 t xs bs ns As cs Ab cb An cn l A cc g1 g6)) 15 (.agg #[.int .i64 0, .int .i64 0, .int .i64 0, .int .i64 0, .int .i64 0]) rfl (fun W hH => by kernel_rfl) hW ?_
    refine de (a' := (lo4_a93 t xs bs ns As cs Ab cb An cn l A cc g1 g6)) 16 (.bool true) rfl (fun W hH => (Eq.trans (b := (do pure (Next.value (← (do pure (Value.bool (← Op.equal 45 (.agg #[.int .i64 0, .int .i64 0, .int .i64 0, .int .i64 0, .int .i64 0]) (.agg #[.int .i64 0, .int .i64 0, .int .i64 0, .int .i64 0, .int .i64 0]))) : Sem Value))) : Sem Next).run Try.prog W) (by kernel_rfl) (st_val (st_valb (five_eq 0 0 0 0 0 W))))) hW ?_
    refine dk (a' := (lo4_a95 t xs bs ns As cs Ab cb An cn l A cc g1 g6)) 17 (.bool true) hW ?_
    refine dk (a' := (lo4_a97 t xs bs ns As cs Ab cb An cn l A cc g1 g6)) 18 (.bool true) hW ?_
    refine dk (a' := (lo4_a99 t xs bs ns As cs Ab cb An cn l A cc g1 g6)) 19 (.bool true) hW ?_
    refine wpAnyH_done (by kernel_rfl) ?_ _
    refine wp_ret ?_
    (try simp only [Exit.then, Exit.inBlock])
    change bodyPost Try.prog Try.f6 _ .ret _ _
    refine bodyPost_ret (results_tmp rfl _ _ _) rfl ?_
    exact ⟨rfl, hW.below⟩
  · skip
    have hl20 : ¬ (l.length : Int) > 20 := by omega
    refine calls_of_wp Try.func6 rfl ?_
    have hW := Ws.nil w
    refine wp_seq ?_
    refine wp_region_list ?_
    obtain ⟨g1, W2, hr, hW, hbb, hge⟩ := hW.mk1 (P := Try.prog) (s := Instr.box 32 (.agg (lo5_c0 t xs bs ns As cs Ab cb An cn))) (lo5_c0 t xs bs ns As cs Ab cb An cn) 32 (by kernel_rfl)
    refine se (a' := (lo5_a1 t xs bs ns As cs Ab cb An cn l ad cc g1)) (.pointer (some ⟨g1, 0, none⟩)) (Eq.trans (b := (do pure (Next.value (← Instr.box 32 (.agg (lo5_c0 t xs bs ns As cs Ab cb An cn)))) : Sem Next).run Try.prog w) (by kernel_rfl) (st_val hr)) ?_
    refine sk (a' := (lo5_a5 t xs bs ns As cs Ab cb An cn l ad cc g1)) (.bool false) ?_
    refine wpList_nil ?_
    refine wp_seq ?_
    refine wp_seq ?_
    refine wp_region_list ?_
    refine st_call (th_alive W2) (by kernel_rfl) (by kernel_rfl) ?_
    rintro _ W3 ⟨rfl, hB⟩
    have hW := hW.step hB
    refine ⟨_, (lo5_a7 t xs bs ns As cs Ab cb An cn l ad cc g1), rfl, by kernel_rfl, ?_⟩
    refine sk (a' := (lo5_a9 t xs bs ns As cs Ab cb An cn l ad cc g1)) (.bool false) ?_
    refine wpList_nil ?_
    refine wp_cond (t := false) (by kernel_rfl) ?_
    refine wp_skip ?_
    refine wp_seq ?_
    refine wp_seq ?_
    refine wp_region_list ?_
    refine sk (a' := (lo5_a11 t xs bs ns As cs Ab cb An cn l ad cc g1)) (.slice (some ad) l.length cc) ?_
    refine sk (a' := (lo5_a13 t xs bs ns As cs Ab cb An cn l ad cc g1)) (.int .i64 (l.length : Int)) ?_
    refine se (a' := (lo5_a15 t xs bs ns As cs Ab cb An cn l ad cc g1)) (.bool false) (Eq.trans (b := .ok (.value (.bool (decide (((l.length : Int) : Int) > 20)))) W3) (by kernel_rfl) (st_ok (decide_eq_false (by omega)))) ?_
    refine wpList_nil ?_
    refine wp_cond (t := false) (by kernel_rfl) ?_
    refine wp_skip ?_
    refine wp_seq ?_
    refine wp_region_list ?_
    refine se (a' := (lo5_a17 t xs bs ns As cs Ab cb An cn l ad cc g1)) (.agg (lo5_c0 t xs bs ns As cs Ab cb An cn)) (evA hW 0 0 Try.underlying32) ?_
    refine sk (a' := (lo5_a19 t xs bs ns As cs Ab cb An cn l ad cc g1)) (.slice (some ad) l.length cc) ?_
    refine st_call (th_rDone (t := (⟨t.pc, t.fu, t.st, t.R, t.kd, t.mi, t.mn, (.slice As xs.length cs), (.slice Ab bs.length cb), (.slice An ns.length cn), t.old⟩ : Th)) (A := (some ad)) (n := l.length) (c := cc) hd (by omega) W3) (by kernel_rfl) (by kernel_rfl) ?_
    rintro _ W4 ⟨rfl, hB⟩
    have hW := hW.step hB
    refine ⟨_, (lo5_a21 t xs bs ns As cs Ab cb An cn l ad cc g1), rfl, by kernel_rfl, ?_⟩
    refine sk (a' := (lo5_a23 t xs bs ns As cs Ab cb An cn l ad cc g1)) (.bool false) ?_
    refine wpList_nil ?_
    refine wp_seq ?_
    refine wp_region_list ?_
    refine se (a' := (lo5_a25 t xs bs ns As cs Ab cb An cn l ad cc g1)) (.agg (lo5_c0 t xs bs ns As cs Ab cb An cn)) (evA hW 0 0 Try.underlying32) ?_
    refine sk (a' := (lo5_a27 t xs bs ns As cs Ab cb An cn l ad cc g1)) (.slice (some ad) l.length cc) ?_
    refine st_call (th_Next_c (t := (⟨t.pc, t.fu, t.st, t.R, t.kd, t.mi, t.mn, (.slice As xs.length cs), (.slice Ab bs.length cb), (.slice An ns.length cn), t.old⟩ : Th)) (ad := ad) (n := l.length) (cc := cc) (by omega) hd hk hp W4 (hcode.below hW.below)) (by kernel_rfl) (by kernel_rfl) ?_
    rintro _ W5 ⟨rfl, hB⟩
    have hW := hW.step hB
    refine ⟨_, (lo5_a29 t xs bs ns As cs Ab cb An cn l ad cc o ia ib ic id_ g1), rfl, by kernel_rfl, ?_⟩
    refine sk (a' := (lo5_a31 t xs bs ns As cs Ab cb An cn l ad cc o ia ib ic id_ g1)) (.tuple #[.agg #[.int .i64 o, .int .i64 ia, .int .i64 ib, .int .i64 ic, .int .i64 id_], .bool true]) ?_
    refine sk (a' := (lo5_a33 t xs bs ns As cs Ab cb An cn l ad cc o ia ib ic id_ g1)) (.agg #[.int .i64 o, .int .i64 ia, .int .i64 ib, .int .i64 ic, .int .i64 id_]) ?_
    refine sk (a' := (lo5_a35 t xs bs ns As cs Ab cb An cn l ad cc o ia ib ic id_ g1)) (.bool true) ?_
    obtain ⟨g6, W7, hr, hW, hbb, hge⟩ := hW.mk1 (P := Try.prog) (s := Instr.alloc 45 true (.tuple #[])) #[.int .i64 0, .int .i64 0, .int .i64 0, .int .i64 0, .int .i64 0] 45 (by kernel_rfl)
    refine se (a' := (lo5_a37 t xs bs ns As cs Ab cb An cn l ad cc o ia ib ic id_ g1 g6)) (.pointer (some ⟨g6, 0, none⟩)) (Eq.trans (b := (do pure (Next.value (← Instr.alloc 45 true (.tuple #[]))) : Sem Next).run Try.prog W5) (by kernel_rfl) (st_val hr)) ?_
    obtain ⟨W8, hr, hW, hF⟩ := hW.storeN (P := Try.prog) (o := 0) (cs' := #[.int .i64 o, .int .i64 ia, .int .i64 ib, .int .i64 ic, .int .i64 id_]) (L' := [(g6, 45, #[.int .i64 o, .int .i64 ia, .int .i64 ib, .int .i64 ic, .int .i64 id_]), (g1, 32, (lo5_c0 t xs bs ns As cs Ab cb An cn))]) 0 rfl #[.int .i64 o, .int .i64 ia, .int .i64 ib, .int .i64 ic, .int .i64 id_] (by kernel_rfl) (Nat.le_of_ble_eq_true rfl) (by kernel_rfl) rfl 45 (by kernel_rfl)
    refine st_none (w' := W8) (a' := (lo5_a37 t xs bs ns As cs Ab cb An cn l ad cc o ia ib ic id_ g1 g6)) (by kernel_rfl) (Eq.trans (b := (do Instr.storeAt 45 (.pointer (some ⟨g6, 0, none⟩)) (.agg #[.int .i64 o, .int .i64 ia, .int .i64 ib, .int .i64 ic, .int .i64 id_]); pure Next.skip : Sem Next).run Try.prog W7) (by kernel_rfl) (st_unit hr)) (by kernel_rfl) ?_
    refine sk (a' := (lo5_a39 t xs bs ns As cs Ab cb An cn l ad cc o ia ib ic id_ g1 g6)) (.bool true) ?_
    refine wpList_nil ?_
    refine wp_seq ?_
    refine wp_seq ?_
    refine wp_region_list ?_
    refine se (a' := (lo5_a41 t xs bs ns As cs Ab cb An cn l ad cc o ia ib ic id_ g1 g6)) (.agg (lo5_c0 t xs bs ns As cs Ab cb An cn)) (evA hW 1 0 Try.underlying32) ?_
    refine sk (a' := (lo5_a43 t xs bs ns As cs Ab cb An cn l ad cc o ia ib ic id_ g1 g6)) (.slice (some ad) l.length cc) ?_
    refine st_call (th_Doneb (t := (⟨t.pc, t.fu, t.st, t.R, t.kd, t.mi, t.mn, (.slice As xs.length cs), (.slice Ab bs.length cb), (.slice An ns.length cn), t.old⟩ : Th)) (A := (some ad)) (n := l.length) (c := cc) hd (by omega) W8) (by kernel_rfl) (by kernel_rfl) ?_
    rintro _ W9 ⟨rfl, hB⟩
    have hW := hW.step hB
    refine ⟨_, (lo5_a45 t xs bs ns As cs Ab cb An cn l ad cc o ia ib ic id_ g1 g6), rfl, by kernel_rfl, ?_⟩
    refine sk (a' := (lo5_a47 t xs bs ns As cs Ab cb An cn l ad cc o ia ib ic id_ g1 g6)) (.bool false) ?_
    refine sk (a' := (lo5_a49 t xs bs ns As cs Ab cb An cn l ad cc o ia ib ic id_ g1 g6)) (.bool false) ?_
    refine sk (a' := (lo5_a51 t xs bs ns As cs Ab cb An cn l ad cc o ia ib ic id_ g1 g6)) (.bool false) ?_
    refine sk (a' := (lo5_a53 t xs bs ns As cs Ab cb An cn l ad cc o ia ib ic id_ g1 g6)) (.bool true) ?_
    refine sk (a' := (lo5_a55 t xs bs ns As cs Ab cb An cn l ad cc o ia ib ic id_ g1 g6)) (.bool false) ?_
    refine sk (a' := (lo5_a57 t xs bs ns As cs Ab cb An cn l ad cc o ia ib ic id_ g1 g6)) (.bool true) ?_
    refine sk (a' := (lo5_a59 t xs bs ns As cs Ab cb An cn l ad cc o ia ib ic id_ g1 g6)) (.bool true) ?_
    refine sk (a' := (lo5_a61 t xs bs ns As cs Ab cb An cn l ad cc o ia ib ic id_ g1 g6)) (.pointer (some ⟨g1, 15, none⟩)) ?_
    refine sk (a' := (lo5_a63 t xs bs ns As cs Ab cb An cn l ad cc o ia ib ic id_ g1 g6)) (.pointer (some ⟨g1, 15, none⟩)) ?_
    refine se (a' := (lo5_a65 t xs bs ns As cs Ab cb An cn l ad cc o ia ib ic id_ g1 g6)) (.int .i64 t.kd) (ev1 hW 1 15 Try.underlying3) ?_
    refine se (a' := (lo5_a67 t xs bs ns As cs Ab cb An cn l ad cc o ia ib ic id_ g1 g6)) (.bool true) (Eq.trans (b := .ok (.value (.bool ((t.kd : Int) == 0))) W9) (by kernel_rfl) (st_ok (beq_iff_eq.2 (by omega)))) ?_
    refine sk (a' := (lo5_a69 t xs bs ns As cs Ab cb An cn l ad cc o ia ib ic id_ g1 g6)) (.bool true) ?_
    refine sk (a' := (lo5_a71 t xs bs ns As cs Ab cb An cn l ad cc o ia ib ic id_ g1 g6)) (.bool false) ?_
    refine sk (a' := (lo5_a73 t xs bs ns As cs Ab cb An cn l ad cc o ia ib ic id_ g1 g6)) (.bool false) ?_
    refine wpList_nil ?_
    refine wp_cond (t := false) (by kernel_rfl) ?_
    refine wp_skip ?_
    refine wp_seq ?_
    have hW := hW.drew
    refine wp_region_held_drew (S := fun W => Ws w W [(g6, 45, #[.int .i64 o, .int .i64 ia, .int .i64 ib, .int .i64 ic, .int .i64 id_]), (g1, 32, (lo5_c0 t xs bs ns As cs Ab cb An cn))]) (by kernel_rfl) hW (fun _ => ?_)
    refine dk (a' := (lo5_a75 t xs bs ns As cs Ab cb An cn l ad cc o ia ib ic id_ g1 g6)) 0 (.bool true) hW ?_
    refine dk (a' := (lo5_a77 t xs bs ns As cs Ab cb An cn l ad cc o ia ib ic id_ g1 g6)) 1 (.bool true) hW ?_
    refine de (a' := (lo5_a79 t xs bs ns As cs Ab cb An cn l ad cc o ia ib ic id_ g1 g6)) 2 (.agg #[.int .i64 o, .int .i64 ia, .int .i64 ib, .int .i64 ic, .int .i64 id_]) rfl (fun W hH => (evA hH 0 0 Try.underlying45)) hW ?_
    refine dk (a' := (lo5_a81 t xs bs ns As cs Ab cb An cn l ad cc o ia ib ic id_ g1 g6)) 3 (.slice (some ad) l.length cc) hW ?_
    refine dk (a' := (lo5_a83 t xs bs ns As cs Ab cb An cn l ad cc o ia ib ic id_ g1 g6)) 4 (.pointer (some ⟨g1, 0, none⟩)) hW ?_
    refine de (a' := (lo5_a85 t xs bs ns As cs Ab cb An cn l ad cc o ia ib ic id_ g1 g6)) 5 (.int .i64 t.pc) rfl (fun W hH => (ev1 hH 1 0 Try.underlying3)) hW ?_
    refine de (a' := (lo5_a87 t xs bs ns As cs Ab cb An cn l ad cc o ia ib ic id_ g1 g6)) 6 (.pointer (some (ad.add (t.pc.toNat * 5)))) rfl (fun W hH => (Eq.trans (b := (do pure (Next.value (← Instr.indexAt 49 (.slice (some ad) l.length cc) (.int .i64 t.pc))) : Sem Next).run Try.prog W) (by kernel_rfl) (st_val (idx_code hp.1 hp.2 W)))) hW ?_
    refine de (a' := (lo5_a89 t xs bs ns As cs Ab cb An cn l ad cc o ia ib ic id_ g1 g6)) 7 (.agg #[.int .i64 o, .int .i64 ia, .int .i64 ib, .int .i64 ic, .int .i64 id_]) rfl (fun W hH => (Eq.trans (b := (do pure (Next.value (← Instr.loadAt 45 (.pointer (some (ad.add (t.pc.toNat * 5)))))) : Sem Next).run Try.prog W) (by kernel_rfl) (st_val (load_row W _ 45 _ _ (hcode.below hH.below).cell Try.underlying45 rfl (by kernel_rfl))))) hW ?_
    refine de (a' := (lo5_a91 t xs bs ns As cs Ab cb An cn l ad cc o ia ib ic id_ g1 g6)) 8 (.bool true) rfl (fun W hH => (Eq.trans (b := (do pure (Next.value (← (do pure (Value.bool (← Op.equal 45 (.agg #[.int .i64 o, .int .i64 ia, .int .i64 ib, .int .i64 ic, .int .i64 id_]) (.agg #[.int .i64 o, .int .i64 ia, .int .i64 ib, .int .i64 ic, .int .i64 id_]))) : Sem Value))) : Sem Next).run Try.prog W) (by kernel_rfl) (st_val (st_valb (five_eq o ia ib ic id_ W))))) hW ?_
    refine dk (a' := (lo5_a93 t xs bs ns As cs Ab cb An cn l ad cc o ia ib ic id_ g1 g6)) 9 (.bool true) hW ?_
    refine dk (a' := (lo5_a95 t xs bs ns As cs Ab cb An cn l ad cc o ia ib ic id_ g1 g6)) 10 (.bool true) hW ?_
    refine dr_skip 11 (a' := (lo5_a95 t xs bs ns As cs Ab cb An cn l ad cc o ia ib ic id_ g1 g6)) rfl (by kernel_rfl) (by kernel_rfl) (by kernel_rfl) (fun _ _ _ h => h) (by kernel_rfl) hW (by kernel_rfl) ?_
    refine dr_skip 12 (a' := (lo5_a95 t xs bs ns As cs Ab cb An cn l ad cc o ia ib ic id_ g1 g6)) rfl (by kernel_rfl) (by kernel_rfl) (by kernel_rfl) (fun _ _ _ h => h) (by kernel_rfl) hW (by kernel_rfl) ?_
    refine dr_skip 13 (a' := (lo5_a95 t xs bs ns As cs Ab cb An cn l ad cc o ia ib ic id_ g1 g6)) rfl (by kernel_rfl) (by kernel_rfl) (by kernel_rfl) (fun _ _ _ h => h) (by kernel_rfl) hW (by kernel_rfl) ?_
    refine dr_skip 14 (a' := (lo5_a95 t xs bs ns As cs Ab cb An cn l ad cc o ia ib ic id_ g1 g6)) rfl (by kernel_rfl) (by kernel_rfl) (by kernel_rfl) (fun _ _ _ h => h) (by kernel_rfl) hW (by kernel_rfl) ?_
    refine dr_skip 15 (a' := (lo5_a95 t xs bs ns As cs Ab cb An cn l ad cc o ia ib ic id_ g1 g6)) rfl (by kernel_rfl) (by kernel_rfl) (by kernel_rfl) (fun _ _ _ h => h) (by kernel_rfl) hW (by kernel_rfl) ?_
    refine dr_skip 16 (a' := (lo5_a95 t xs bs ns As cs Ab cb An cn l ad cc o ia ib ic id_ g1 g6)) rfl (by kernel_rfl) (by kernel_rfl) (by kernel_rfl) (fun _ _ _ h => h) (by kernel_rfl) hW (by kernel_rfl) ?_
    refine dr_skip 17 (a' := (lo5_a95 t xs bs ns As cs Ab cb An cn l ad cc o ia ib ic id_ g1 g6)) rfl (by kernel_rfl) (by kernel_rfl) (by kernel_rfl) (fun _ _ _ h => h) (by kernel_rfl) hW (by kernel_rfl) ?_
    refine dk (a' := (lo5_a97 t xs bs ns As cs Ab cb An cn l ad cc o ia ib ic id_ g1 g6)) 18 (.bool true) hW ?_
    refine dk (a' := (lo5_a99 t xs bs ns As cs Ab cb An cn l ad cc o ia ib ic id_ g1 g6)) 19 (.bool true) hW ?_
    refine wpAnyH_done (by kernel_rfl) ?_ _
    refine wp_ret ?_
    (try simp only [Exit.then, Exit.inBlock])
    change bodyPost Try.prog Try.f6 _ .ret _ _
    refine bodyPost_ret (results_tmp rfl _ _ _) rfl ?_
    exact ⟨rfl, hW.below⟩
end Go.Proofs.Ythcmcekjgecnhaa.Th
