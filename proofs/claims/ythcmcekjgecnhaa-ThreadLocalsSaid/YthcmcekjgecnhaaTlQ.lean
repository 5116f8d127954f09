/- The functions that the kit prints, for the thread laws. No condition. -/
import Derived.Test.YthcmcekjgecnhaaProg
import Derived.Below
import Derived.Deep.Draws
import Derived.Deep.AppendLies
import Derived.Maps.AppendAt
import Derived.OwnWalk
import Derived.Laws.BytesArg
import Derived.Laws.MakeOwn
import Derived.Laws.OwnMore
import Derived.Deep.OwnRows
import Derived.Tactics
import Derived.Lib.ConvBytes
import Derived.Laws.Slices
import Derived.WalkKit
import Derived.KernelRfl
import Derived.RowKit3
import Derived.Deep.LoopGhost
import Derived.Deep.QuietTactic
import Derived.BigQuiet
import Derived.WideLaws
import Derived.Deep.DeepCutAuto
import Derived.Deep.CutBlock
import Derived.Deep.RegionHeld3
import Derived.Laws.Rows
import Derived.Lib.AppendStr
import Derived.ArgAppend
import Derived.Laws.IdiomCopy
import Derived.OrdersHeld
import Derived.Laws.BitsLemmas
import Derived.RowKit
import Derived.Test.YthcmcekjgecnhaaWWords
import Derived.Test.YthcmcekjgecnhaaWLast
import Derived.Test.YthcmcekjgecnhaaWArr
import Derived.Test.YthcmcekjgecnhaaWEqStruct
import Derived.Deep.RegionLawGrows
import Derived.Test.YthcmcekjgecnhaaThW
namespace Go.Proofs.Ythcmcekjgecnhaa.QThreadLocals
open Go.RowKit Go.Proofs.YthcmcekjgecnhaaW.PrintWords Go.Proofs.YthcmcekjgecnhaaW.PrintLast
open Go.Proofs.YthcmcekjgecnhaaW.HWords
attribute [local go_sem] max2_int min2_int max_two min_two max_three min_three max_four min_four   -- for this text's walks alone
set_option linter.unusedVariables false
set_option linter.unusedSimpArgs false



def errW : Option Int → Value
  | none => .nilIface
  | some c => .iface 0 (.int .i64 c)
theorem errW_none : errW none = .nilIface := rfl
theorem errW_some (c : Int) : errW (some c) = .iface 0 (.int .i64 c) := rfl

theorem info2 : (Try.prog.info? 2).map (fun i => (i.zero, i.size, i.bytes)) = some (some (.int .i64 0), 1, 8) := by kernel_rfl
theorem info42 : (Try.prog.info? 42).map (fun i => (i.zero, i.size, i.bytes)) = some (some (.agg #[(.int .i64 0), (.int .i64 0), (.int .i64 0)]), 3, 24) := by kernel_rfl
-- the values' own types
def rd_L1 (xs : List (List Int)) (i : Int) : (List Int) := xs.getD i.toNat ([] : List Int)
theorem at_L1 {w : World} {A : Option Addr} {n : Nat} {xs : List (List Int)} (h : Kd.C (Kd.slice 2 (Kd.int .i64)) w A n xs) (i : Int) (h0 : 0 ≤ i) (h1 : i < n) : ∃ ad A0 c0, A = some ad ∧ w.cell? (ad.add i.toNat) = some (.slice A0 (rd_L1 xs i).length c0) ∧ (rd_L1 xs i).length ≤ c0 ∧ (Kd.int .i64).C w A0 (rd_L1 xs i).length (rd_L1 xs i) := by
  obtain ⟨ad, c, e, _, hK, hc0⟩ := Kd.C_get h ([] : List Int) i h0 h1
  have hc : ∀ j u, c[j]? = some u → w.cell? (ad.add (i.toNat * 1 + j)) = some u := hc0
  obtain ⟨A0, c0, rfl, l0, g0⟩ := hK
  exact ⟨ad, A0, c0, e, by have hq := hc 0 _ rfl; rwa [Nat.mul_one, Nat.add_zero] at hq, l0, g0⟩

/-! #### struct type 42 -/
structure S42 where
  f0 : Int
  f1 : Int
  f2 : Int
def z42 : S42 := ⟨(0 : Int), (0 : Int), (0 : Int)⟩
def k42 : Kd S42 := Kd.iso (Kd.pair (Kd.int .i64) (Kd.pair (Kd.int .i64) (Kd.int .i64))) (fun x : S42 => (x.f0, x.f1, x.f2))
theorem k42_open {w : World} {x : S42} {cs : List Value} (h : k42.K w x cs) : cs = [.int .i64 x.f0, .int .i64 x.f1, .int .i64 x.f2] := by
  obtain ⟨_, _, rfl, rfl, ⟨_, _, rfl, rfl, rfl⟩⟩ := h
  exact rfl
theorem k42_openM {w : World} {base : Nat} {ok : Nat → Prop} {x : S42} {cs : List Value} (h : k42.M w base ok x cs) : cs = [.int .i64 x.f0, .int .i64 x.f1, .int .i64 x.f2] := by
  obtain ⟨_, _, rfl, rfl, ⟨_, _, rfl, rfl, rfl⟩⟩ := h
  exact rfl
theorem k42_mk (w : World) (x : S42)  : k42.K w x [.int .i64 x.f0, .int .i64 x.f1, .int .i64 x.f2] := ⟨[.int .i64 x.f0], [.int .i64 x.f1, .int .i64 x.f2], rfl, rfl, ⟨[.int .i64 x.f1], [.int .i64 x.f2], rfl, rfl, rfl⟩⟩
theorem k42_mkM (w : World) (base : Nat) (ok : Nat → Prop) (x : S42)  : k42.M w base ok x [.int .i64 x.f0, .int .i64 x.f1, .int .i64 x.f2] := ⟨[.int .i64 x.f0], [.int .i64 x.f1, .int .i64 x.f2], rfl, rfl, ⟨[.int .i64 x.f1], [.int .i64 x.f2], rfl, rfl, rfl⟩⟩
def rd_T42 (xs : List S42) (i : Int) : S42 := xs.getD i.toNat z42
theorem at_T42 {w : World} {A : Option Addr} {n : Nat} {xs : List S42} (h : Kd.C k42 w A n xs) (i : Int) (h0 : 0 ≤ i) (h1 : i < n) : ∃ ad , A = some ad ∧ w.cell? (ad.add (i.toNat * 3)) = some (.int .i64 (rd_T42 xs i).f0) ∧ w.cell? ⟨(ad.add (i.toNat * 3)).block, (ad.add (i.toNat * 3)).off + 1, none⟩ = some (.int .i64 (rd_T42 xs i).f1) ∧ w.cell? ⟨(ad.add (i.toNat * 3)).block, (ad.add (i.toNat * 3)).off + 2, none⟩ = some (.int .i64 (rd_T42 xs i).f2) := by
  obtain ⟨ad, c, e, _, hK, hc0⟩ := Kd.C_get h z42 i h0 h1
  have hc : ∀ j u, c[j]? = some u → w.cell? (ad.add (i.toNat * 3 + j)) = some u := hc0
  obtain rfl := k42_open hK
  exact ⟨ad, e, hc 0 _ rfl, by rw [← add_field _ _ 1 (by omega)]; exact hc 1 _ rfl, by rw [← add_field _ _ 2 (by omega)]; exact hc 2 _ rfl⟩

def rd_L3 (xs : List (List S42)) (i : Int) : (List S42) := xs.getD i.toNat ([] : List S42)
theorem at_L3 {w : World} {A : Option Addr} {n : Nat} {xs : List (List S42)} (h : Kd.C (Kd.slice 42 k42) w A n xs) (i : Int) (h0 : 0 ≤ i) (h1 : i < n) : ∃ ad A0 c0, A = some ad ∧ w.cell? (ad.add i.toNat) = some (.slice A0 (rd_L3 xs i).length c0) ∧ (rd_L3 xs i).length ≤ c0 ∧ k42.C w A0 (rd_L3 xs i).length (rd_L3 xs i) := by
  obtain ⟨ad, c, e, _, hK, hc0⟩ := Kd.C_get h ([] : List S42) i h0 h1
  have hc : ∀ j u, c[j]? = some u → w.cell? (ad.add (i.toNat * 1 + j)) = some u := hc0
  obtain ⟨A0, c0, rfl, l0, g0⟩ := hK
  exact ⟨ad, A0, c0, e, by have hq := hc 0 _ rfl; rwa [Nat.mul_one, Nat.add_zero] at hq, l0, g0⟩

/-! #### struct type 87 -/
structure S87 where
  f0 : ByteArray
  f1 : ByteArray
def z87 : S87 := ⟨(⟨#[]⟩ : ByteArray), (⟨#[]⟩ : ByteArray)⟩
def k87 : Kd S87 := Kd.iso (Kd.pair Kd.string Kd.string) (fun x : S87 => (x.f0, x.f1))
theorem k87_open {w : World} {x : S87} {cs : List Value} (h : k87.K w x cs) : cs = [.string x.f0, .string x.f1] := by
  obtain ⟨_, _, rfl, rfl, rfl⟩ := h
  exact rfl
theorem k87_openM {w : World} {base : Nat} {ok : Nat → Prop} {x : S87} {cs : List Value} (h : k87.M w base ok x cs) : cs = [.string x.f0, .string x.f1] := by
  obtain ⟨_, _, rfl, rfl, rfl⟩ := h
  exact rfl
theorem k87_mk (w : World) (x : S87)  : k87.K w x [.string x.f0, .string x.f1] := ⟨[.string x.f0], [.string x.f1], rfl, rfl, rfl⟩
theorem k87_mkM (w : World) (base : Nat) (ok : Nat → Prop) (x : S87)  : k87.M w base ok x [.string x.f0, .string x.f1] := ⟨[.string x.f0], [.string x.f1], rfl, rfl, rfl⟩
def rd_T87 (xs : List S87) (i : Int) : S87 := xs.getD i.toNat z87
theorem at_T87 {w : World} {A : Option Addr} {n : Nat} {xs : List S87} (h : Kd.C k87 w A n xs) (i : Int) (h0 : 0 ≤ i) (h1 : i < n) : ∃ ad , A = some ad ∧ w.cell? (ad.add (i.toNat * 2)) = some (.string (rd_T87 xs i).f0) ∧ w.cell? ⟨(ad.add (i.toNat * 2)).block, (ad.add (i.toNat * 2)).off + 1, none⟩ = some (.string (rd_T87 xs i).f1) := by
  obtain ⟨ad, c, e, _, hK, hc0⟩ := Kd.C_get h z87 i h0 h1
  have hc : ∀ j u, c[j]? = some u → w.cell? (ad.add (i.toNat * 2 + j)) = some u := hc0
  obtain rfl := k87_open hK
  exact ⟨ad, e, hc 0 _ rfl, by rw [← add_field _ _ 1 (by omega)]; exact hc 1 _ rfl⟩

/-! #### struct type 25 -/
structure S25 where
  f0 : Int
  f1 : Int
  f2 : Int
def z25 : S25 := ⟨(0 : Int), (0 : Int), (0 : Int)⟩
def k25 : Kd S25 := Kd.iso (Kd.pair (Kd.int .i64) (Kd.pair (Kd.int .i64) (Kd.int .i64))) (fun x : S25 => (x.f0, x.f1, x.f2))
theorem k25_open {w : World} {x : S25} {cs : List Value} (h : k25.K w x cs) : cs = [.int .i64 x.f0, .int .i64 x.f1, .int .i64 x.f2] := by
  obtain ⟨_, _, rfl, rfl, ⟨_, _, rfl, rfl, rfl⟩⟩ := h
  exact rfl
theorem k25_openM {w : World} {base : Nat} {ok : Nat → Prop} {x : S25} {cs : List Value} (h : k25.M w base ok x cs) : cs = [.int .i64 x.f0, .int .i64 x.f1, .int .i64 x.f2] := by
  obtain ⟨_, _, rfl, rfl, ⟨_, _, rfl, rfl, rfl⟩⟩ := h
  exact rfl
theorem k25_mk (w : World) (x : S25)  : k25.K w x [.int .i64 x.f0, .int .i64 x.f1, .int .i64 x.f2] := ⟨[.int .i64 x.f0], [.int .i64 x.f1, .int .i64 x.f2], rfl, rfl, ⟨[.int .i64 x.f1], [.int .i64 x.f2], rfl, rfl, rfl⟩⟩
theorem k25_mkM (w : World) (base : Nat) (ok : Nat → Prop) (x : S25)  : k25.M w base ok x [.int .i64 x.f0, .int .i64 x.f1, .int .i64 x.f2] := ⟨[.int .i64 x.f0], [.int .i64 x.f1, .int .i64 x.f2], rfl, rfl, ⟨[.int .i64 x.f1], [.int .i64 x.f2], rfl, rfl, rfl⟩⟩
def rd_T25 (xs : List S25) (i : Int) : S25 := xs.getD i.toNat z25
theorem at_T25 {w : World} {A : Option Addr} {n : Nat} {xs : List S25} (h : Kd.C k25 w A n xs) (i : Int) (h0 : 0 ≤ i) (h1 : i < n) : ∃ ad , A = some ad ∧ w.cell? (ad.add (i.toNat * 3)) = some (.int .i64 (rd_T25 xs i).f0) ∧ w.cell? ⟨(ad.add (i.toNat * 3)).block, (ad.add (i.toNat * 3)).off + 1, none⟩ = some (.int .i64 (rd_T25 xs i).f1) ∧ w.cell? ⟨(ad.add (i.toNat * 3)).block, (ad.add (i.toNat * 3)).off + 2, none⟩ = some (.int .i64 (rd_T25 xs i).f2) := by
  obtain ⟨ad, c, e, _, hK, hc0⟩ := Kd.C_get h z25 i h0 h1
  have hc : ∀ j u, c[j]? = some u → w.cell? (ad.add (i.toNat * 3 + j)) = some u := hc0
  obtain rfl := k25_open hK
  exact ⟨ad, e, hc 0 _ rfl, by rw [← add_field _ _ 1 (by omega)]; exact hc 1 _ rfl, by rw [← add_field _ _ 2 (by omega)]; exact hc 2 _ rfl⟩


theorem eqA42 (d : Nat) (w : World) (x0 y0 : Int) (x1 y1 : Int) (x2 y2 : Int) :
    (Op.equalIn (d + 2) 42 (.agg #[.int .i64 x0, .int .i64 x1, .int .i64 x2]) (.agg #[.int .i64 y0, .int .i64 y1, .int .i64 y2])).run Try.prog w = .ok (x0 == y0 && (x1 == y1 && (x2 == y2))) w := by
  refine eqA_of Try.underlying42 (by kernel_rfl) ?_
  refine eqf_cons (by rfl) (by go_simp; rfl) (by go_simp; rfl) (by go_simp) ?_
  refine eqf_cons (by rfl) (by go_simp; rfl) (by go_simp; rfl) (by go_simp) ?_
  exact eqf_last (by rfl) (by go_simp; rfl) (by go_simp; rfl) (by go_simp)

/-! ### num_Clamp: function 32 -/
def num_Clamp.f (a0 : Int) (a1 : Int) (a2 : Int) : Option (Int) := if a0 < a1 then (some a1) else (some (mn a0 a2))
set_option maxHeartbeats 8000000 in
set_option maxRecDepth 100000 in
theorem num_Clamp.calls (a0 : Int) (a1 : Int) (a2 : Int) (r : Int) (w : World) (h : num_Clamp.f a0 a1 a2 = some r) :
    Calls Try.prog 32 #[.int .i64 a0, .int .i64 a1, .int .i64 a2] w fun e w' => e = .returned (.int .i64 r) ∧ Below w.heap.size w w' := by
  have HB := Aside0.mk (Below.refl w.heap.size w)
  have H : (if a0 < a1 then (some a1) else (some (mn a0 a2))) = some r := h
  clear h
  by_cases c4 : a0 < a1
  · rw [if_pos c4] at H
    have c4b0 : decide (a0 < a1) = true := decide_eq_true c4
    clear c4
    obtain rfl := Option.some.inj H
    go_enter Try.func32, Try.ntmps32
    go_wp2
    go_ret
    exact ⟨by first | rfl | (simp [errW_none, errW_some] <;> rfl) | (simp [*, errW_none, errW_some] <;> rfl), by repeat (first | (with_reducible first | exact HB.out | apply below_alloc | apply pw_below_drewN | apply below_drew1) | exact HB.out)⟩
  · rw [if_neg c4] at H
    have c4b0 : decide (a0 < a1) = false := decide_eq_false c4
    clear c4
    obtain ⟨ji5, hji5⟩ : ∃ j_ : Int, (mn a0 a2) = j_ := ⟨_, rfl⟩
    replace H : (some ji5) = some r := by first | (rw [hji5] at H; exact H) | (simp only [hji5] at H ⊢; exact H)
    have hji5_ : (if a2 < a0 then a2 else a0) = ji5 := hji5
    obtain rfl := Option.some.inj H
    go_enter Try.func32, Try.ntmps32
    go_wp2
    go_ret
    exact ⟨by first | rfl | (simp [errW_none, errW_some] <;> rfl) | (simp only [← hji5]; first | rfl | (simp [errW_none, errW_some] <;> rfl)) | (simp [*, errW_none, errW_some] <;> rfl), by repeat (first | (with_reducible first | exact HB.out | apply below_alloc | apply pw_below_drewN | apply below_drew1) | exact HB.out)⟩

-- NOT PRINTED: function 13 (thread_Begin)

/-! ### slices_Clone_int64_int64: function 33 (proved by hand) -/
def slices_Clone_int64_int64.f (l0 : List (Int)) : Option (List (Int)) := if l0.length * 8 < 140737488355328 then some l0 else none
set_option maxHeartbeats 8000000 in
set_option maxRecDepth 100000 in
theorem slices_Clone_int64_int64.calls (A0 : Option Addr) (c0 : Nat) (l0 : List (Int)) (r : List (Int)) (w : World) (hr0 : Kd.C (Kd.int .i64) w A0 l0.length l0) (hc0 : l0.length ≤ c0) (h : slices_Clone_int64_int64.f l0 = some r) :
    Calls Try.prog 33 #[.slice A0 l0.length c0] w fun e w' => ∃ v0_ : Value, e = .returned (v0_) ∧ Kd.R (Kd.int .i64) 2 w' w.heap.size (fun _ => True) v0_ r ∧ Below w.heap.size w w' := by
  unfold slices_Clone_int64_int64.f at h
  by_cases hl : l0.length * 8 < 140737488355328
  · rw [if_pos hl] at h
    obtain rfl := Option.some.inj h
    clear h
    have qT : ∀ (w : World) (a : Option Addr) (n c n' c' : Nat), (binOp .eql 27 (.slice a n c) (.slice none n' c')).run Try.prog w = .ok (.bool a.isNone) w := fun w a n c n' c' => Lib.run_eql_slice_nil w _ _ a n c n' c' Try.underlying27
    have HR := Aside0.mk hr0
    have LM := Aside0.mk hl
    clear hl hc0
    cases A0 with
    | none =>
      have he : l0 = [] := by
        rcases Nat.eq_zero_or_pos l0.length with h0 | h0
        · exact List.eq_nil_of_length_eq_zero h0
        · obtain ⟨ad, h1, _⟩ := hr0.2.2 h0
          cases h1
      subst he
      clear hr0
      go_enter Try.func33, Try.ntmps33
      go_wp2
      go_ret
      exact ⟨_, rfl, Kd.R_nil _ _ _ _ _, Below.refl _ _⟩
    | some ad =>
      clear hr0
      go_enter Try.func33, Try.ntmps33
      go_wp2_with (at_builtin; refine Kd.R_append_rows (Kd.int .i64) (Rr := (Kd.int .i64).K (w.alloc (.cells #[] 2))) (w0 := w) w.heap.size ?bG (.tmp 5) (.tmp 6) 27 2 (.int .i64 0) 8 ?bH Try.underlying27 info2 ?bZ ?b0 ?b1 (.slice (some ⟨w.heap.size, 0, none⟩) 0 0) [] l0 (some ad) l0.length c0 (fun _ => True) (fun _ => False) ?bS ?bX ?aO ?aR ?aK ?bK ?bF ?aB ?aS ?aL ?_; (case bG => rfl); (case bH => rfl); (case bZ => rfl); (case b0 => decide); (case b1 => decide); (case bS => rfl); (case bX => rfl); (case aO => exact R_empty _ _ _ _ _ (Nat.le_refl _) trivial); (case aR => exact Kd.C_below HR.out (below_alloc (Below.refl _ _) _)); (case aK => exact fun _ _ hk => (Flat.int .i64).up hk); (case bK => exact fun _ hk => hk.elim); (case bF => exact fun _ _ => trivial); (case aB => exact below_alloc (Below.refl _ _) _); (case aS => (simp; done)); (case aL => (have := LM.out; simp; omega)); intro v1 w1 ho hb hg hat; have HO := Aside0.mk ho; have HB := Aside0.mk hb; clear ho hb hg hat)
      go_ret
      exact ⟨_, rfl, HO.out, HB.out⟩
  · rw [if_neg hl] at h
    cases h

/-! ### api_Bagged: function 34 (proved by hand) -/
def api_Bagged.f (l0 : List (S42)) : Option (List (S42)) := if l0.length * 24 < 140737488355328 then some l0 else none
set_option maxHeartbeats 8000000 in
set_option maxRecDepth 100000 in
theorem api_Bagged.calls (A0 : Option Addr) (c0 : Nat) (l0 : List (S42)) (r : List (S42)) (w : World) (hr0 : Kd.C k42 w A0 l0.length l0) (hc0 : l0.length ≤ c0) (h : api_Bagged.f l0 = some r) :
    Calls Try.prog 34 #[.slice A0 l0.length c0] w fun e w' => ∃ v0_ : Value, e = .returned (v0_) ∧ Kd.R k42 42 w' w.heap.size (fun _ => True) v0_ r ∧ Below w.heap.size w w' := by
  unfold api_Bagged.f at h
  by_cases hl : l0.length * 24 < 140737488355328
  · rw [if_pos hl] at h
    obtain rfl := Option.some.inj h
    clear h
    have qT : ∀ (w : World) (a : Option Addr) (n c n' c' : Nat), (binOp .eql 30 (.slice a n c) (.slice none n' c')).run Try.prog w = .ok (.bool a.isNone) w := fun w a n c n' c' => Lib.run_eql_slice_nil w _ _ a n c n' c' Try.underlying30
    have HR := Aside0.mk hr0
    have LM := Aside0.mk hl
    clear hl hc0
    cases A0 with
    | none =>
      have he : l0 = [] := by
        rcases Nat.eq_zero_or_pos l0.length with h0 | h0
        · exact List.eq_nil_of_length_eq_zero h0
        · obtain ⟨ad, h1, _⟩ := hr0.2.2 h0
          cases h1
      subst he
      clear hr0
      go_enter Try.func34, Try.ntmps34
      go_wp2
      go_ret
      exact ⟨_, rfl, Kd.R_nil _ _ _ _ _, Below.refl _ _⟩
    | some ad =>
      clear hr0
      go_enter Try.func34, Try.ntmps34
      go_wp2_with (at_builtin; refine Kd.R_append_rows k42 (Rr := k42.K (w.alloc (.cells #[] 42))) (w0 := w) w.heap.size ?bG (.tmp 5) (.tmp 6) 30 42 (.agg #[(.int .i64 0), (.int .i64 0), (.int .i64 0)]) 24 ?bH Try.underlying30 info42 ?bZ ?b0 ?b1 (.slice (some ⟨w.heap.size, 0, none⟩) 0 0) [] l0 (some ad) l0.length c0 (fun _ => True) (fun _ => False) ?bS ?bX ?aO ?aR ?aK ?bK ?bF ?aB ?aS ?aL ?_; (case bG => rfl); (case bH => rfl); (case bZ => rfl); (case b0 => decide); (case b1 => decide); (case bS => rfl); (case bX => rfl); (case aO => exact R_empty _ _ _ _ _ (Nat.le_refl _) trivial); (case aR => exact Kd.C_below HR.out (below_alloc (Below.refl _ _) _)); (case aK => exact fun _ _ hk => (Flat.iso (Flat.pair (Flat.int .i64) (Flat.pair (Flat.int .i64) (Flat.int .i64))) _).up hk); (case bK => exact fun _ hk => hk.elim); (case bF => exact fun _ _ => trivial); (case aB => exact below_alloc (Below.refl _ _) _); (case aS => (simp; done)); (case aL => (have := LM.out; simp; omega)); intro v1 w1 ho hb hg hat; have HO := Aside0.mk ho; have HB := Aside0.mk hb; clear ho hb hg hat)
      go_ret
      exact ⟨_, rfl, HO.out, HB.out⟩
  · rw [if_neg hl] at h
    cases h

-- NOT PRINTED: function 16 (thread_Clone)

-- NOT PRINTED: function 15 (thread_Start)

/-! ### num_In: function 35 -/
def num_In.f (a0 : Int) (a1 : Int) (a2 : Int) : Option (Bool) := if a1 ≤ a0 then (some (decide (a0 ≤ a2))) else (some false)
set_option maxHeartbeats 8000000 in
set_option maxRecDepth 100000 in
theorem num_In.calls (a0 : Int) (a1 : Int) (a2 : Int) (r : Bool) (w : World) (h : num_In.f a0 a1 a2 = some r) :
    Calls Try.prog 35 #[.int .i64 a0, .int .i64 a1, .int .i64 a2] w fun e w' => e = .returned (.bool r) ∧ Drawn0 w w' := by
  have H : (if a1 ≤ a0 then (some (decide (a0 ≤ a2))) else (some false)) = some r := h
  clear h
  by_cases c4 : a1 ≤ a0
  · rw [if_pos c4] at H
    have c4b0 : decide (a1 ≤ a0) = true := decide_eq_true c4
    clear c4
    obtain rfl := Option.some.inj H
    go_enter Try.func35, Try.ntmps35
    go_wp2
    go_ret
    exact ⟨by first | rfl | (simp; done) | (simp [*]; done), by repeat (first | exact Drawn0.refl _ | apply Drawn0.step)⟩
  · rw [if_neg c4] at H
    have c4b0 : decide (a1 ≤ a0) = false := decide_eq_false c4
    clear c4
    obtain rfl := Option.some.inj H
    go_enter Try.func35, Try.ntmps35
    go_wp2
    go_ret
    exact ⟨by first | rfl | (simp; done) | (simp [*]; done), by repeat (first | exact Drawn0.refl _ | apply Drawn0.step)⟩

-- NOT PRINTED: function 19 (thread_Get)

-- NOT PRINTED: function 17 (thread_Set)

-- NOT PRINTED: function 65 (op_kinds)

/-! ### op_of: function 53 (proved by hand) -/
def op_kinds.strs : List ByteArray := [⟨#[]⟩, ⟨#[]⟩, ⟨#[104, 97, 108, 116]⟩, ⟨#[45, 45, 45, 45]⟩, ⟨#[115, 101, 116]⟩, ⟨#[114, 45, 45, 110]⟩, ⟨#[99, 111, 112, 121]⟩, ⟨#[114, 114, 45, 45]⟩, ⟨#[97, 100, 100]⟩, ⟨#[114, 114, 114, 45]⟩, ⟨#[115, 117, 98]⟩, ⟨#[114, 114, 114, 45]⟩, ⟨#[109, 117, 108]⟩, ⟨#[114, 114, 114, 45]⟩, ⟨#[100, 105, 118]⟩, ⟨#[114, 114, 114, 45]⟩, ⟨#[106, 117, 109, 112]⟩, ⟨#[45, 45, 45, 116]⟩, ⟨#[122, 101, 114, 111]⟩, ⟨#[114, 45, 45, 116]⟩, ⟨#[115, 97, 109, 101]⟩, ⟨#[114, 114, 45, 116]⟩, ⟨#[108, 111, 111, 107]⟩, ⟨#[114, 103, 45, 45]⟩, ⟨#[112, 117, 116]⟩, ⟨#[103, 114, 45, 45]⟩, ⟨#[115, 119, 97, 112]⟩, ⟨#[114, 114, 114, 103]⟩, ⟨#[108, 111, 97, 100]⟩, ⟨#[114, 114, 45, 102]⟩, ⟨#[115, 116, 111, 114, 101]⟩, ⟨#[114, 114, 45, 102]⟩, ⟨#[99, 97, 115]⟩, ⟨#[114, 114, 114, 102]⟩, ⟨#[102, 101, 110, 99, 101]⟩, ⟨#[45, 45, 45, 45]⟩, ⟨#[110, 101, 119]⟩, ⟨#[114, 45, 45, 45]⟩, ⟨#[102, 114, 101, 101]⟩, ⟨#[114, 45, 45, 45]⟩, ⟨#[114, 101, 116, 105, 114, 101]⟩, ⟨#[114, 45, 45, 45]⟩, ⟨#[103, 117, 97, 114, 100]⟩, ⟨#[114, 45, 45, 115]⟩, ⟨#[99, 108, 101, 97, 114]⟩, ⟨#[45, 45, 45, 115]⟩, ⟨#[101, 110, 116, 101, 114]⟩, ⟨#[45, 45, 45, 45]⟩, ⟨#[108, 101, 97, 118, 101]⟩, ⟨#[45, 45, 45, 45]⟩, ⟨#[113, 117, 105, 101, 116]⟩, ⟨#[45, 45, 45, 45]⟩]
def op_kinds.cells : List Value := op_kinds.strs.map .string
def op_kinds.zero : List Value := List.replicate 52 (.string ⟨#[]⟩)
def op_kinds.a0 (b : Nat) : Act := ⟨#[.pointer (some ⟨b, 0, none⟩), undef, undef, undef, undef, undef, undef, undef, undef, undef, undef, undef, undef, undef, undef, undef, undef, undef, undef, undef, undef, undef, undef, undef, undef, undef, undef], []⟩
def op_kinds.a1 (b : Nat) : Act := ⟨#[.pointer (some ⟨b, 0, none⟩), .agg #[.string ⟨#[104, 97, 108, 116]⟩, .string ⟨#[45, 45, 45, 45]⟩], undef, undef, undef, undef, undef, undef, undef, undef, undef, undef, undef, undef, undef, undef, undef, undef, undef, undef, undef, undef, undef, undef, undef, undef, undef], []⟩
def op_kinds.a2 (b : Nat) : Act := ⟨#[.pointer (some ⟨b, 0, none⟩), .agg #[.string ⟨#[104, 97, 108, 116]⟩, .string ⟨#[45, 45, 45, 45]⟩], .agg #[.string ⟨#[115, 101, 116]⟩, .string ⟨#[114, 45, 45, 110]⟩], undef, undef, undef, undef, undef, undef, undef, undef, undef, undef, undef, undef, undef, undef, undef, undef, undef, undef, undef, undef, undef, undef, undef, undef], []⟩
def op_kinds.a3 (b : Nat) : Act := ⟨#[.pointer (some ⟨b, 0, none⟩), .agg #[.string ⟨#[104, 97, 108, 116]⟩, .string ⟨#[45, 45, 45, 45]⟩], .agg #[.string ⟨#[115, 101, 116]⟩, .string ⟨#[114, 45, 45, 110]⟩], .agg #[.string ⟨#[99, 111, 112, 121]⟩, .string ⟨#[114, 114, 45, 45]⟩], undef, undef, undef, undef, undef, undef, undef, undef, undef, undef, undef, undef, undef, undef, undef, undef, undef, undef, undef, undef, undef, undef, undef], []⟩
def op_kinds.a4 (b : Nat) : Act := ⟨#[.pointer (some ⟨b, 0, none⟩), .agg #[.string ⟨#[104, 97, 108, 116]⟩, .string ⟨#[45, 45, 45, 45]⟩], .agg #[.string ⟨#[115, 101, 116]⟩, .string ⟨#[114, 45, 45, 110]⟩], .agg #[.string ⟨#[99, 111, 112, 121]⟩, .string ⟨#[114, 114, 45, 45]⟩], .agg #[.string ⟨#[97, 100, 100]⟩, .string ⟨#[114, 114, 114, 45]⟩], undef, undef, undef, undef, undef, undef, undef, undef, undef, undef, undef, undef, undef, undef, undef, undef, undef, undef, undef, undef, undef, undef], []⟩
def op_kinds.a5 (b : Nat) : Act := ⟨#[.pointer (some ⟨b, 0, none⟩), .agg #[.string ⟨#[104, 97, 108, 116]⟩, .string ⟨#[45, 45, 45, 45]⟩], .agg #[.string ⟨#[115, 101, 116]⟩, .string ⟨#[114, 45, 45, 110]⟩], .agg #[.string ⟨#[99, 111, 112, 121]⟩, .string ⟨#[114, 114, 45, 45]⟩], .agg #[.string ⟨#[97, 100, 100]⟩, .string ⟨#[114, 114, 114, 45]⟩], .agg #[.string ⟨#[115, 117, 98]⟩, .string ⟨#[114, 114, 114, 45]⟩], undef, undef, undef, undef, undef, undef, undef, undef, undef, undef, undef, undef, undef, undef, undef, undef, undef, undef, undef, undef, undef], []⟩
def op_kinds.a6 (b : Nat) : Act := ⟨#[.pointer (some ⟨b, 0, none⟩), .agg #[.string ⟨#[104, 97, 108, 116]⟩, .string ⟨#[45, 45, 45, 45]⟩], .agg #[.string ⟨#[115, 101, 116]⟩, .string ⟨#[114, 45, 45, 110]⟩], .agg #[.string ⟨#[99, 111, 112, 121]⟩, .string ⟨#[114, 114, 45, 45]⟩], .agg #[.string ⟨#[97, 100, 100]⟩, .string ⟨#[114, 114, 114, 45]⟩], .agg #[.string ⟨#[115, 117, 98]⟩, .string ⟨#[114, 114, 114, 45]⟩], .agg #[.string ⟨#[109, 117, 108]⟩, .string ⟨#[114, 114, 114, 45]⟩], undef, undef, undef, undef, undef, undef, undef, undef, undef, undef, undef, undef, undef, undef, undef, undef, undef, undef, undef, undef], []⟩
def op_kinds.a7 (b : Nat) : Act := ⟨#[.pointer (some ⟨b, 0, none⟩), .agg #[.string ⟨#[104, 97, 108, 116]⟩, .string ⟨#[45, 45, 45, 45]⟩], .agg #[.string ⟨#[115, 101, 116]⟩, .string ⟨#[114, 45, 45, 110]⟩], .agg #[.string ⟨#[99, 111, 112, 121]⟩, .string ⟨#[114, 114, 45, 45]⟩], .agg #[.string ⟨#[97, 100, 100]⟩, .string ⟨#[114, 114, 114, 45]⟩], .agg #[.string ⟨#[115, 117, 98]⟩, .string ⟨#[114, 114, 114, 45]⟩], .agg #[.string ⟨#[109, 117, 108]⟩, .string ⟨#[114, 114, 114, 45]⟩], .agg #[.string ⟨#[100, 105, 118]⟩, .string ⟨#[114, 114, 114, 45]⟩], undef, undef, undef, undef, undef, undef, undef, undef, undef, undef, undef, undef, undef, undef, undef, undef, undef, undef, undef], []⟩
def op_kinds.a8 (b : Nat) : Act := ⟨#[.pointer (some ⟨b, 0, none⟩), .agg #[.string ⟨#[104, 97, 108, 116]⟩, .string ⟨#[45, 45, 45, 45]⟩], .agg #[.string ⟨#[115, 101, 116]⟩, .string ⟨#[114, 45, 45, 110]⟩], .agg #[.string ⟨#[99, 111, 112, 121]⟩, .string ⟨#[114, 114, 45, 45]⟩], .agg #[.string ⟨#[97, 100, 100]⟩, .string ⟨#[114, 114, 114, 45]⟩], .agg #[.string ⟨#[115, 117, 98]⟩, .string ⟨#[114, 114, 114, 45]⟩], .agg #[.string ⟨#[109, 117, 108]⟩, .string ⟨#[114, 114, 114, 45]⟩], .agg #[.string ⟨#[100, 105, 118]⟩, .string ⟨#[114, 114, 114, 45]⟩], .agg #[.string ⟨#[106, 117, 109, 112]⟩, .string ⟨#[45, 45, 45, 116]⟩], undef, undef, undef, undef, undef, undef, undef, undef, undef, undef, undef, undef, undef, undef, undef, undef, undef, undef], []⟩
def op_kinds.a9 (b : Nat) : Act := ⟨#[.pointer (some ⟨b, 0, none⟩), .agg #[.string ⟨#[104, 97, 108, 116]⟩, .string ⟨#[45, 45, 45, 45]⟩], .agg #[.string ⟨#[115, 101, 116]⟩, .string ⟨#[114, 45, 45, 110]⟩], .agg #[.string ⟨#[99, 111, 112, 121]⟩, .string ⟨#[114, 114, 45, 45]⟩], .agg #[.string ⟨#[97, 100, 100]⟩, .string ⟨#[114, 114, 114, 45]⟩], .agg #[.string ⟨#[115, 117, 98]⟩, .string ⟨#[114, 114, 114, 45]⟩], .agg #[.string ⟨#[109, 117, 108]⟩, .string ⟨#[114, 114, 114, 45]⟩], .agg #[.string ⟨#[100, 105, 118]⟩, .string ⟨#[114, 114, 114, 45]⟩], .agg #[.string ⟨#[106, 117, 109, 112]⟩, .string ⟨#[45, 45, 45, 116]⟩], .agg #[.string ⟨#[122, 101, 114, 111]⟩, .string ⟨#[114, 45, 45, 116]⟩], undef, undef, undef, undef, undef, undef, undef, undef, undef, undef, undef, undef, undef, undef, undef, undef, undef], []⟩
def op_kinds.a10 (b : Nat) : Act := ⟨#[.pointer (some ⟨b, 0, none⟩), .agg #[.string ⟨#[104, 97, 108, 116]⟩, .string ⟨#[45, 45, 45, 45]⟩], .agg #[.string ⟨#[115, 101, 116]⟩, .string ⟨#[114, 45, 45, 110]⟩], .agg #[.string ⟨#[99, 111, 112, 121]⟩, .string ⟨#[114, 114, 45, 45]⟩], .agg #[.string ⟨#[97, 100, 100]⟩, .string ⟨#[114, 114, 114, 45]⟩], .agg #[.string ⟨#[115, 117, 98]⟩, .string ⟨#[114, 114, 114, 45]⟩], .agg #[.string ⟨#[109, 117, 108]⟩, .string ⟨#[114, 114, 114, 45]⟩], .agg #[.string ⟨#[100, 105, 118]⟩, .string ⟨#[114, 114, 114, 45]⟩], .agg #[.string ⟨#[106, 117, 109, 112]⟩, .string ⟨#[45, 45, 45, 116]⟩], .agg #[.string ⟨#[122, 101, 114, 111]⟩, .string ⟨#[114, 45, 45, 116]⟩], .agg #[.string ⟨#[115, 97, 109, 101]⟩, .string ⟨#[114, 114, 45, 116]⟩], undef, undef, undef, undef, undef, undef, undef, undef, undef, undef, undef, undef, undef, undef, undef, undef], []⟩
def op_kinds.a11 (b : Nat) : Act := ⟨#[.pointer (some ⟨b, 0, none⟩), .agg #[.string ⟨#[104, 97, 108, 116]⟩, .string ⟨#[45, 45, 45, 45]⟩], .agg #[.string ⟨#[115, 101, 116]⟩, .string ⟨#[114, 45, 45, 110]⟩], .agg #[.string ⟨#[99, 111, 112, 121]⟩, .string ⟨#[114, 114, 45, 45]⟩], .agg #[.string ⟨#[97, 100, 100]⟩, .string ⟨#[114, 114, 114, 45]⟩], .agg #[.string ⟨#[115, 117, 98]⟩, .string ⟨#[114, 114, 114, 45]⟩], .agg #[.string ⟨#[109, 117, 108]⟩, .string ⟨#[114, 114, 114, 45]⟩], .agg #[.string ⟨#[100, 105, 118]⟩, .string ⟨#[114, 114, 114, 45]⟩], .agg #[.string ⟨#[106, 117, 109, 112]⟩, .string ⟨#[45, 45, 45, 116]⟩], .agg #[.string ⟨#[122, 101, 114, 111]⟩, .string ⟨#[114, 45, 45, 116]⟩], .agg #[.string ⟨#[115, 97, 109, 101]⟩, .string ⟨#[114, 114, 45, 116]⟩], .agg #[.string ⟨#[108, 111, 111, 107]⟩, .string ⟨#[114, 103, 45, 45]⟩], undef, undef, undef, undef, undef, undef, undef, undef, undef, undef, undef, undef, undef, undef, undef], []⟩
def op_kinds.a12 (b : Nat) : Act := ⟨#[.pointer (some ⟨b, 0, none⟩), .agg #[.string ⟨#[104, 97, 108, 116]⟩, .string ⟨#[45, 45, 45, 45]⟩], .agg #[.string ⟨#[115, 101, 116]⟩, .string ⟨#[114, 45, 45, 110]⟩], .agg #[.string ⟨#[99, 111, 112, 121]⟩, .string ⟨#[114, 114, 45, 45]⟩], .agg #[.string ⟨#[97, 100, 100]⟩, .string ⟨#[114, 114, 114, 45]⟩], .agg #[.string ⟨#[115, 117, 98]⟩, .string ⟨#[114, 114, 114, 45]⟩], .agg #[.string ⟨#[109, 117, 108]⟩, .string ⟨#[114, 114, 114, 45]⟩], .agg #[.string ⟨#[100, 105, 118]⟩, .string ⟨#[114, 114, 114, 45]⟩], .agg #[.string ⟨#[106, 117, 109, 112]⟩, .string ⟨#[45, 45, 45, 116]⟩], .agg #[.string ⟨#[122, 101, 114, 111]⟩, .string ⟨#[114, 45, 45, 116]⟩], .agg #[.string ⟨#[115, 97, 109, 101]⟩, .string ⟨#[114, 114, 45, 116]⟩], .agg #[.string ⟨#[108, 111, 111, 107]⟩, .string ⟨#[114, 103, 45, 45]⟩], .agg #[.string ⟨#[112, 117, 116]⟩, .string ⟨#[103, 114, 45, 45]⟩], undef, undef, undef, undef, undef, undef, undef, undef, undef, undef, undef, undef, undef, undef], []⟩
def op_kinds.a13 (b : Nat) : Act := ⟨#[.pointer (some ⟨b, 0, none⟩), .agg #[.string ⟨#[104, 97, 108, 116]⟩, .string ⟨#[45, 45, 45, 45]⟩], .agg #[.string ⟨#[115, 101, 116]⟩, .string ⟨#[114, 45, 45, 110]⟩], .agg #[.string ⟨#[99, 111, 112, 121]⟩, .string ⟨#[114, 114, 45, 45]⟩], .agg #[.string ⟨#[97, 100, 100]⟩, .string ⟨#[114, 114, 114, 45]⟩], .agg #[.string ⟨#[115, 117, 98]⟩, .string ⟨#[114, 114, 114, 45]⟩], .agg #[.string ⟨#[109, 117, 108]⟩, .string ⟨#[114, 114, 114, 45]⟩], .agg #[.string ⟨#[100, 105, 118]⟩, .string ⟨#[114, 114, 114, 45]⟩], .agg #[.string ⟨#[106, 117, 109, 112]⟩, .string ⟨#[45, 45, 45, 116]⟩], .agg #[.string ⟨#[122, 101, 114, 111]⟩, .string ⟨#[114, 45, 45, 116]⟩], .agg #[.string ⟨#[115, 97, 109, 101]⟩, .string ⟨#[114, 114, 45, 116]⟩], .agg #[.string ⟨#[108, 111, 111, 107]⟩, .string ⟨#[114, 103, 45, 45]⟩], .agg #[.string ⟨#[112, 117, 116]⟩, .string ⟨#[103, 114, 45, 45]⟩], .agg #[.string ⟨#[115, 119, 97, 112]⟩, .string ⟨#[114, 114, 114, 103]⟩], undef, undef, undef, undef, undef, undef, undef, undef, undef, undef, undef, undef, undef], []⟩
def op_kinds.a14 (b : Nat) : Act := ⟨#[.pointer (some ⟨b, 0, none⟩), .agg #[.string ⟨#[104, 97, 108, 116]⟩, .string ⟨#[45, 45, 45, 45]⟩], .agg #[.string ⟨#[115, 101, 116]⟩, .string ⟨#[114, 45, 45, 110]⟩], .agg #[.string ⟨#[99, 111, 112, 121]⟩, .string ⟨#[114, 114, 45, 45]⟩], .agg #[.string ⟨#[97, 100, 100]⟩, .string ⟨#[114, 114, 114, 45]⟩], .agg #[.string ⟨#[115, 117, 98]⟩, .string ⟨#[114, 114, 114, 45]⟩], .agg #[.string ⟨#[109, 117, 108]⟩, .string ⟨#[114, 114, 114, 45]⟩], .agg #[.string ⟨#[100, 105, 118]⟩, .string ⟨#[114, 114, 114, 45]⟩], .agg #[.string ⟨#[106, 117, 109, 112]⟩, .string ⟨#[45, 45, 45, 116]⟩], .agg #[.string ⟨#[122, 101, 114, 111]⟩, .string ⟨#[114, 45, 45, 116]⟩], .agg #[.string ⟨#[115, 97, 109, 101]⟩, .string ⟨#[114, 114, 45, 116]⟩], .agg #[.string ⟨#[108, 111, 111, 107]⟩, .string ⟨#[114, 103, 45, 45]⟩], .agg #[.string ⟨#[112, 117, 116]⟩, .string ⟨#[103, 114, 45, 45]⟩], .agg #[.string ⟨#[115, 119, 97, 112]⟩, .string ⟨#[114, 114, 114, 103]⟩], .agg #[.string ⟨#[108, 111, 97, 100]⟩, .string ⟨#[114, 114, 45, 102]⟩], undef, undef, undef, undef, undef, undef, undef, undef, undef, undef, undef, undef], []⟩
def op_kinds.a15 (b : Nat) : Act := ⟨#[.pointer (some ⟨b, 0, none⟩), .agg #[.string ⟨#[104, 97, 108, 116]⟩, .string ⟨#[45, 45, 45, 45]⟩], .agg #[.string ⟨#[115, 101, 116]⟩, .string ⟨#[114, 45, 45, 110]⟩], .agg #[.string ⟨#[99, 111, 112, 121]⟩, .string ⟨#[114, 114, 45, 45]⟩], .agg #[.string ⟨#[97, 100, 100]⟩, .string ⟨#[114, 114, 114, 45]⟩], .agg #[.string ⟨#[115, 117, 98]⟩, .string ⟨#[114, 114, 114, 45]⟩], .agg #[.string ⟨#[109, 117, 108]⟩, .string ⟨#[114, 114, 114, 45]⟩], .agg #[.string ⟨#[100, 105, 118]⟩, .string ⟨#[114, 114, 114, 45]⟩], .agg #[.string ⟨#[106, 117, 109, 112]⟩, .string ⟨#[45, 45, 45, 116]⟩], .agg #[.string ⟨#[122, 101, 114, 111]⟩, .string ⟨#[114, 45, 45, 116]⟩], .agg #[.string ⟨#[115, 97, 109, 101]⟩, .string ⟨#[114, 114, 45, 116]⟩], .agg #[.string ⟨#[108, 111, 111, 107]⟩, .string ⟨#[114, 103, 45, 45]⟩], .agg #[.string ⟨#[112, 117, 116]⟩, .string ⟨#[103, 114, 45, 45]⟩], .agg #[.string ⟨#[115, 119, 97, 112]⟩, .string ⟨#[114, 114, 114, 103]⟩], .agg #[.string ⟨#[108, 111, 97, 100]⟩, .string ⟨#[114, 114, 45, 102]⟩], .agg #[.string ⟨#[115, 116, 111, 114, 101]⟩, .string ⟨#[114, 114, 45, 102]⟩], undef, undef, undef, undef, undef, undef, undef, undef, undef, undef, undef], []⟩
def op_kinds.a16 (b : Nat) : Act := ⟨#[.pointer (some ⟨b, 0, none⟩), .agg #[.string ⟨#[104, 97, 108, 116]⟩, .string ⟨#[45, 45, 45, 45]⟩], .agg #[.string ⟨#[115, 101, 116]⟩, .string ⟨#[114, 45, 45, 110]⟩], .agg #[.string ⟨#[99, 111, 112, 121]⟩, .string ⟨#[114, 114, 45, 45]⟩], .agg #[.string ⟨#[97, 100, 100]⟩, .string ⟨#[114, 114, 114, 45]⟩], .agg #[.string ⟨#[115, 117, 98]⟩, .string ⟨#[114, 114, 114, 45]⟩], .agg #[.string ⟨#[109, 117, 108]⟩, .string ⟨#[114, 114, 114, 45]⟩], .agg #[.string ⟨#[100, 105, 118]⟩, .string ⟨#[114, 114, 114, 45]⟩], .agg #[.string ⟨#[106, 117, 109, 112]⟩, .string ⟨#[45, 45, 45, 116]⟩], .agg #[.string ⟨#[122, 101, 114, 111]⟩, .string ⟨#[114, 45, 45, 116]⟩], .agg #[.string ⟨#[115, 97, 109, 101]⟩, .string ⟨#[114, 114, 45, 116]⟩], .agg #[.string ⟨#[108, 111, 111, 107]⟩, .string ⟨#[114, 103, 45, 45]⟩], .agg #[.string ⟨#[112, 117, 116]⟩, .string ⟨#[103, 114, 45, 45]⟩], .agg #[.string ⟨#[115, 119, 97, 112]⟩, .string ⟨#[114, 114, 114, 103]⟩], .agg #[.string ⟨#[108, 111, 97, 100]⟩, .string ⟨#[114, 114, 45, 102]⟩], .agg #[.string ⟨#[115, 116, 111, 114, 101]⟩, .string ⟨#[114, 114, 45, 102]⟩], .agg #[.string ⟨#[99, 97, 115]⟩, .string ⟨#[114, 114, 114, 102]⟩], undef, undef, undef, undef, undef, undef, undef, undef, undef, undef], []⟩
def op_kinds.a17 (b : Nat) : Act := ⟨#[.pointer (some ⟨b, 0, none⟩), .agg #[.string ⟨#[104, 97, 108, 116]⟩, .string ⟨#[45, 45, 45, 45]⟩], .agg #[.string ⟨#[115, 101, 116]⟩, .string ⟨#[114, 45, 45, 110]⟩], .agg #[.string ⟨#[99, 111, 112, 121]⟩, .string ⟨#[114, 114, 45, 45]⟩], .agg #[.string ⟨#[97, 100, 100]⟩, .string ⟨#[114, 114, 114, 45]⟩], .agg #[.string ⟨#[115, 117, 98]⟩, .string ⟨#[114, 114, 114, 45]⟩], .agg #[.string ⟨#[109, 117, 108]⟩, .string ⟨#[114, 114, 114, 45]⟩], .agg #[.string ⟨#[100, 105, 118]⟩, .string ⟨#[114, 114, 114, 45]⟩], .agg #[.string ⟨#[106, 117, 109, 112]⟩, .string ⟨#[45, 45, 45, 116]⟩], .agg #[.string ⟨#[122, 101, 114, 111]⟩, .string ⟨#[114, 45, 45, 116]⟩], .agg #[.string ⟨#[115, 97, 109, 101]⟩, .string ⟨#[114, 114, 45, 116]⟩], .agg #[.string ⟨#[108, 111, 111, 107]⟩, .string ⟨#[114, 103, 45, 45]⟩], .agg #[.string ⟨#[112, 117, 116]⟩, .string ⟨#[103, 114, 45, 45]⟩], .agg #[.string ⟨#[115, 119, 97, 112]⟩, .string ⟨#[114, 114, 114, 103]⟩], .agg #[.string ⟨#[108, 111, 97, 100]⟩, .string ⟨#[114, 114, 45, 102]⟩], .agg #[.string ⟨#[115, 116, 111, 114, 101]⟩, .string ⟨#[114, 114, 45, 102]⟩], .agg #[.string ⟨#[99, 97, 115]⟩, .string ⟨#[114, 114, 114, 102]⟩], .agg #[.string ⟨#[102, 101, 110, 99, 101]⟩, .string ⟨#[45, 45, 45, 45]⟩], undef, undef, undef, undef, undef, undef, undef, undef, undef], []⟩
def op_kinds.a18 (b : Nat) : Act := ⟨#[.pointer (some ⟨b, 0, none⟩), .agg #[.string ⟨#[104, 97, 108, 116]⟩, .string ⟨#[45, 45, 45, 45]⟩], .agg #[.string ⟨#[115, 101, 116]⟩, .string ⟨#[114, 45, 45, 110]⟩], .agg #[.string ⟨#[99, 111, 112, 121]⟩, .string ⟨#[114, 114, 45, 45]⟩], .agg #[.string ⟨#[97, 100, 100]⟩, .string ⟨#[114, 114, 114, 45]⟩], .agg #[.string ⟨#[115, 117, 98]⟩, .string ⟨#[114, 114, 114, 45]⟩], .agg #[.string ⟨#[109, 117, 108]⟩, .string ⟨#[114, 114, 114, 45]⟩], .agg #[.string ⟨#[100, 105, 118]⟩, .string ⟨#[114, 114, 114, 45]⟩], .agg #[.string ⟨#[106, 117, 109, 112]⟩, .string ⟨#[45, 45, 45, 116]⟩], .agg #[.string ⟨#[122, 101, 114, 111]⟩, .string ⟨#[114, 45, 45, 116]⟩], .agg #[.string ⟨#[115, 97, 109, 101]⟩, .string ⟨#[114, 114, 45, 116]⟩], .agg #[.string ⟨#[108, 111, 111, 107]⟩, .string ⟨#[114, 103, 45, 45]⟩], .agg #[.string ⟨#[112, 117, 116]⟩, .string ⟨#[103, 114, 45, 45]⟩], .agg #[.string ⟨#[115, 119, 97, 112]⟩, .string ⟨#[114, 114, 114, 103]⟩], .agg #[.string ⟨#[108, 111, 97, 100]⟩, .string ⟨#[114, 114, 45, 102]⟩], .agg #[.string ⟨#[115, 116, 111, 114, 101]⟩, .string ⟨#[114, 114, 45, 102]⟩], .agg #[.string ⟨#[99, 97, 115]⟩, .string ⟨#[114, 114, 114, 102]⟩], .agg #[.string ⟨#[102, 101, 110, 99, 101]⟩, .string ⟨#[45, 45, 45, 45]⟩], .agg #[.string ⟨#[110, 101, 119]⟩, .string ⟨#[114, 45, 45, 45]⟩], undef, undef, undef, undef, undef, undef, undef, undef], []⟩
def op_kinds.a19 (b : Nat) : Act := ⟨#[.pointer (some ⟨b, 0, none⟩), .agg #[.string ⟨#[104, 97, 108, 116]⟩, .string ⟨#[45, 45, 45, 45]⟩], .agg #[.string ⟨#[115, 101, 116]⟩, .string ⟨#[114, 45, 45, 110]⟩], .agg #[.string ⟨#[99, 111, 112, 121]⟩, .string ⟨#[114, 114, 45, 45]⟩], .agg #[.string ⟨#[97, 100, 100]⟩, .string ⟨#[114, 114, 114, 45]⟩], .agg #[.string ⟨#[115, 117, 98]⟩, .string ⟨#[114, 114, 114, 45]⟩], .agg #[.string ⟨#[109, 117, 108]⟩, .string ⟨#[114, 114, 114, 45]⟩], .agg #[.string ⟨#[100, 105, 118]⟩, .string ⟨#[114, 114, 114, 45]⟩], .agg #[.string ⟨#[106, 117, 109, 112]⟩, .string ⟨#[45, 45, 45, 116]⟩], .agg #[.string ⟨#[122, 101, 114, 111]⟩, .string ⟨#[114, 45, 45, 116]⟩], .agg #[.string ⟨#[115, 97, 109, 101]⟩, .string ⟨#[114, 114, 45, 116]⟩], .agg #[.string ⟨#[108, 111, 111, 107]⟩, .string ⟨#[114, 103, 45, 45]⟩], .agg #[.string ⟨#[112, 117, 116]⟩, .string ⟨#[103, 114, 45, 45]⟩], .agg #[.string ⟨#[115, 119, 97, 112]⟩, .string ⟨#[114, 114, 114, 103]⟩], .agg #[.string ⟨#[108, 111, 97, 100]⟩, .string ⟨#[114, 114, 45, 102]⟩], .agg #[.string ⟨#[115, 116, 111, 114, 101]⟩, .string ⟨#[114, 114, 45, 102]⟩], .agg #[.string ⟨#[99, 97, 115]⟩, .string ⟨#[114, 114, 114, 102]⟩], .agg #[.string ⟨#[102, 101, 110, 99, 101]⟩, .string ⟨#[45, 45, 45, 45]⟩], .agg #[.string ⟨#[110, 101, 119]⟩, .string ⟨#[114, 45, 45, 45]⟩], .agg #[.string ⟨#[102, 114, 101, 101]⟩, .string ⟨#[114, 45, 45, 45]⟩], undef, undef, undef, undef, undef, undef, undef], []⟩
def op_kinds.a20 (b : Nat) : Act := ⟨#[.pointer (some ⟨b, 0, none⟩), .agg #[.string ⟨#[104, 97, 108, 116]⟩, .string ⟨#[45, 45, 45, 45]⟩], .agg #[.string ⟨#[115, 101, 116]⟩, .string ⟨#[114, 45, 45, 110]⟩], .agg #[.string ⟨#[99, 111, 112, 121]⟩, .string ⟨#[114, 114, 45, 45]⟩], .agg #[.string ⟨#[97, 100, 100]⟩, .string ⟨#[114, 114, 114, 45]⟩], .agg #[.string ⟨#[115, 117, 98]⟩, .string ⟨#[114, 114, 114, 45]⟩], .agg #[.string ⟨#[109, 117, 108]⟩, .string ⟨#[114, 114, 114, 45]⟩], .agg #[.string ⟨#[100, 105, 118]⟩, .string ⟨#[114, 114, 114, 45]⟩], .agg #[.string ⟨#[106, 117, 109, 112]⟩, .string ⟨#[45, 45, 45, 116]⟩], .agg #[.string ⟨#[122, 101, 114, 111]⟩, .string ⟨#[114, 45, 45, 116]⟩], .agg #[.string ⟨#[115, 97, 109, 101]⟩, .string ⟨#[114, 114, 45, 116]⟩], .agg #[.string ⟨#[108, 111, 111, 107]⟩, .string ⟨#[114, 103, 45, 45]⟩], .agg #[.string ⟨#[112, 117, 116]⟩, .string ⟨#[103, 114, 45, 45]⟩], .agg #[.string ⟨#[115, 119, 97, 112]⟩, .string ⟨#[114, 114, 114, 103]⟩], .agg #[.string ⟨#[108, 111, 97, 100]⟩, .string ⟨#[114, 114, 45, 102]⟩], .agg #[.string ⟨#[115, 116, 111, 114, 101]⟩, .string ⟨#[114, 114, 45, 102]⟩], .agg #[.string ⟨#[99, 97, 115]⟩, .string ⟨#[114, 114, 114, 102]⟩], .agg #[.string ⟨#[102, 101, 110, 99, 101]⟩, .string ⟨#[45, 45, 45, 45]⟩], .agg #[.string ⟨#[110, 101, 119]⟩, .string ⟨#[114, 45, 45, 45]⟩], .agg #[.string ⟨#[102, 114, 101, 101]⟩, .string ⟨#[114, 45, 45, 45]⟩], .agg #[.string ⟨#[114, 101, 116, 105, 114, 101]⟩, .string ⟨#[114, 45, 45, 45]⟩], undef, undef, undef, undef, undef, undef], []⟩
def op_kinds.a21 (b : Nat) : Act := ⟨#[.pointer (some ⟨b, 0, none⟩), .agg #[.string ⟨#[104, 97, 108, 116]⟩, .string ⟨#[45, 45, 45, 45]⟩], .agg #[.string ⟨#[115, 101, 116]⟩, .string ⟨#[114, 45, 45, 110]⟩], .agg #[.string ⟨#[99, 111, 112, 121]⟩, .string ⟨#[114, 114, 45, 45]⟩], .agg #[.string ⟨#[97, 100, 100]⟩, .string ⟨#[114, 114, 114, 45]⟩], .agg #[.string ⟨#[115, 117, 98]⟩, .string ⟨#[114, 114, 114, 45]⟩], .agg #[.string ⟨#[109, 117, 108]⟩, .string ⟨#[114, 114, 114, 45]⟩], .agg #[.string ⟨#[100, 105, 118]⟩, .string ⟨#[114, 114, 114, 45]⟩], .agg #[.string ⟨#[106, 117, 109, 112]⟩, .string ⟨#[45, 45, 45, 116]⟩], .agg #[.string ⟨#[122, 101, 114, 111]⟩, .string ⟨#[114, 45, 45, 116]⟩], .agg #[.string ⟨#[115, 97, 109, 101]⟩, .string ⟨#[114, 114, 45, 116]⟩], .agg #[.string ⟨#[108, 111, 111, 107]⟩, .string ⟨#[114, 103, 45, 45]⟩], .agg #[.string ⟨#[112, 117, 116]⟩, .string ⟨#[103, 114, 45, 45]⟩], .agg #[.string ⟨#[115, 119, 97, 112]⟩, .string ⟨#[114, 114, 114, 103]⟩], .agg #[.string ⟨#[108, 111, 97, 100]⟩, .string ⟨#[114, 114, 45, 102]⟩], .agg #[.string ⟨#[115, 116, 111, 114, 101]⟩, .string ⟨#[114, 114, 45, 102]⟩], .agg #[.string ⟨#[99, 97, 115]⟩, .string ⟨#[114, 114, 114, 102]⟩], .agg #[.string ⟨#[102, 101, 110, 99, 101]⟩, .string ⟨#[45, 45, 45, 45]⟩], .agg #[.string ⟨#[110, 101, 119]⟩, .string ⟨#[114, 45, 45, 45]⟩], .agg #[.string ⟨#[102, 114, 101, 101]⟩, .string ⟨#[114, 45, 45, 45]⟩], .agg #[.string ⟨#[114, 101, 116, 105, 114, 101]⟩, .string ⟨#[114, 45, 45, 45]⟩], .agg #[.string ⟨#[103, 117, 97, 114, 100]⟩, .string ⟨#[114, 45, 45, 115]⟩], undef, undef, undef, undef, undef], []⟩
def op_kinds.a22 (b : Nat) : Act := ⟨#[.pointer (some ⟨b, 0, none⟩), .agg #[.string ⟨#[104, 97, 108, 116]⟩, .string ⟨#[45, 45, 45, 45]⟩], .agg #[.string ⟨#[115, 101, 116]⟩, .string ⟨#[114, 45, 45, 110]⟩], .agg #[.string ⟨#[99, 111, 112, 121]⟩, .string ⟨#[114, 114, 45, 45]⟩], .agg #[.string ⟨#[97, 100, 100]⟩, .string ⟨#[114, 114, 114, 45]⟩], .agg #[.string ⟨#[115, 117, 98]⟩, .string ⟨#[114, 114, 114, 45]⟩], .agg #[.string ⟨#[109, 117, 108]⟩, .string ⟨#[114, 114, 114, 45]⟩], .agg #[.string ⟨#[100, 105, 118]⟩, .string ⟨#[114, 114, 114, 45]⟩], .agg #[.string ⟨#[106, 117, 109, 112]⟩, .string ⟨#[45, 45, 45, 116]⟩], .agg #[.string ⟨#[122, 101, 114, 111]⟩, .string ⟨#[114, 45, 45, 116]⟩], .agg #[.string ⟨#[115, 97, 109, 101]⟩, .string ⟨#[114, 114, 45, 116]⟩], .agg #[.string ⟨#[108, 111, 111, 107]⟩, .string ⟨#[114, 103, 45, 45]⟩], .agg #[.string ⟨#[112, 117, 116]⟩, .string ⟨#[103, 114, 45, 45]⟩], .agg #[.string ⟨#[115, 119, 97, 112]⟩, .string ⟨#[114, 114, 114, 103]⟩], .agg #[.string ⟨#[108, 111, 97, 100]⟩, .string ⟨#[114, 114, 45, 102]⟩], .agg #[.string ⟨#[115, 116, 111, 114, 101]⟩, .string ⟨#[114, 114, 45, 102]⟩], .agg #[.string ⟨#[99, 97, 115]⟩, .string ⟨#[114, 114, 114, 102]⟩], .agg #[.string ⟨#[102, 101, 110, 99, 101]⟩, .string ⟨#[45, 45, 45, 45]⟩], .agg #[.string ⟨#[110, 101, 119]⟩, .string ⟨#[114, 45, 45, 45]⟩], .agg #[.string ⟨#[102, 114, 101, 101]⟩, .string ⟨#[114, 45, 45, 45]⟩], .agg #[.string ⟨#[114, 101, 116, 105, 114, 101]⟩, .string ⟨#[114, 45, 45, 45]⟩], .agg #[.string ⟨#[103, 117, 97, 114, 100]⟩, .string ⟨#[114, 45, 45, 115]⟩], .agg #[.string ⟨#[99, 108, 101, 97, 114]⟩, .string ⟨#[45, 45, 45, 115]⟩], undef, undef, undef, undef], []⟩
def op_kinds.a23 (b : Nat) : Act := ⟨#[.pointer (some ⟨b, 0, none⟩), .agg #[.string ⟨#[104, 97, 108, 116]⟩, .string ⟨#[45, 45, 45, 45]⟩], .agg #[.string ⟨#[115, 101, 116]⟩, .string ⟨#[114, 45, 45, 110]⟩], .agg #[.string ⟨#[99, 111, 112, 121]⟩, .string ⟨#[114, 114, 45, 45]⟩], .agg #[.string ⟨#[97, 100, 100]⟩, .string ⟨#[114, 114, 114, 45]⟩], .agg #[.string ⟨#[115, 117, 98]⟩, .string ⟨#[114, 114, 114, 45]⟩], .agg #[.string ⟨#[109, 117, 108]⟩, .string ⟨#[114, 114, 114, 45]⟩], .agg #[.string ⟨#[100, 105, 118]⟩, .string ⟨#[114, 114, 114, 45]⟩], .agg #[.string ⟨#[106, 117, 109, 112]⟩, .string ⟨#[45, 45, 45, 116]⟩], .agg #[.string ⟨#[122, 101, 114, 111]⟩, .string ⟨#[114, 45, 45, 116]⟩], .agg #[.string ⟨#[115, 97, 109, 101]⟩, .string ⟨#[114, 114, 45, 116]⟩], .agg #[.string ⟨#[108, 111, 111, 107]⟩, .string ⟨#[114, 103, 45, 45]⟩], .agg #[.string ⟨#[112, 117, 116]⟩, .string ⟨#[103, 114, 45, 45]⟩], .agg #[.string ⟨#[115, 119, 97, 112]⟩, .string ⟨#[114, 114, 114, 103]⟩], .agg #[.string ⟨#[108, 111, 97, 100]⟩, .string ⟨#[114, 114, 45, 102]⟩], .agg #[.string ⟨#[115, 116, 111, 114, 101]⟩, .string ⟨#[114, 114, 45, 102]⟩], .agg #[.string ⟨#[99, 97, 115]⟩, .string ⟨#[114, 114, 114, 102]⟩], .agg #[.string ⟨#[102, 101, 110, 99, 101]⟩, .string ⟨#[45, 45, 45, 45]⟩], .agg #[.string ⟨#[110, 101, 119]⟩, .string ⟨#[114, 45, 45, 45]⟩], .agg #[.string ⟨#[102, 114, 101, 101]⟩, .string ⟨#[114, 45, 45, 45]⟩], .agg #[.string ⟨#[114, 101, 116, 105, 114, 101]⟩, .string ⟨#[114, 45, 45, 45]⟩], .agg #[.string ⟨#[103, 117, 97, 114, 100]⟩, .string ⟨#[114, 45, 45, 115]⟩], .agg #[.string ⟨#[99, 108, 101, 97, 114]⟩, .string ⟨#[45, 45, 45, 115]⟩], .agg #[.string ⟨#[101, 110, 116, 101, 114]⟩, .string ⟨#[45, 45, 45, 45]⟩], undef, undef, undef], []⟩
def op_kinds.a24 (b : Nat) : Act := ⟨#[.pointer (some ⟨b, 0, none⟩), .agg #[.string ⟨#[104, 97, 108, 116]⟩, .string ⟨#[45, 45, 45, 45]⟩], .agg #[.string ⟨#[115, 101, 116]⟩, .string ⟨#[114, 45, 45, 110]⟩], .agg #[.string ⟨#[99, 111, 112, 121]⟩, .string ⟨#[114, 114, 45, 45]⟩], .agg #[.string ⟨#[97, 100, 100]⟩, .string ⟨#[114, 114, 114, 45]⟩], .agg #[.string ⟨#[115, 117, 98]⟩, .string ⟨#[114, 114, 114, 45]⟩], .agg #[.string ⟨#[109, 117, 108]⟩, .string ⟨#[114, 114, 114, 45]⟩], .agg #[.string ⟨#[100, 105, 118]⟩, .string ⟨#[114, 114, 114, 45]⟩], .agg #[.string ⟨#[106, 117, 109, 112]⟩, .string ⟨#[45, 45, 45, 116]⟩], .agg #[.string ⟨#[122, 101, 114, 111]⟩, .string ⟨#[114, 45, 45, 116]⟩], .agg #[.string ⟨#[115, 97, 109, 101]⟩, .string ⟨#[114, 114, 45, 116]⟩], .agg #[.string ⟨#[108, 111, 111, 107]⟩, .string ⟨#[114, 103, 45, 45]⟩], .agg #[.string ⟨#[112, 117, 116]⟩, .string ⟨#[103, 114, 45, 45]⟩], .agg #[.string ⟨#[115, 119, 97, 112]⟩, .string ⟨#[114, 114, 114, 103]⟩], .agg #[.string ⟨#[108, 111, 97, 100]⟩, .string ⟨#[114, 114, 45, 102]⟩], .agg #[.string ⟨#[115, 116, 111, 114, 101]⟩, .string ⟨#[114, 114, 45, 102]⟩], .agg #[.string ⟨#[99, 97, 115]⟩, .string ⟨#[114, 114, 114, 102]⟩], .agg #[.string ⟨#[102, 101, 110, 99, 101]⟩, .string ⟨#[45, 45, 45, 45]⟩], .agg #[.string ⟨#[110, 101, 119]⟩, .string ⟨#[114, 45, 45, 45]⟩], .agg #[.string ⟨#[102, 114, 101, 101]⟩, .string ⟨#[114, 45, 45, 45]⟩], .agg #[.string ⟨#[114, 101, 116, 105, 114, 101]⟩, .string ⟨#[114, 45, 45, 45]⟩], .agg #[.string ⟨#[103, 117, 97, 114, 100]⟩, .string ⟨#[114, 45, 45, 115]⟩], .agg #[.string ⟨#[99, 108, 101, 97, 114]⟩, .string ⟨#[45, 45, 45, 115]⟩], .agg #[.string ⟨#[101, 110, 116, 101, 114]⟩, .string ⟨#[45, 45, 45, 45]⟩], .agg #[.string ⟨#[108, 101, 97, 118, 101]⟩, .string ⟨#[45, 45, 45, 45]⟩], undef, undef], []⟩
def op_kinds.a25 (b : Nat) : Act := ⟨#[.pointer (some ⟨b, 0, none⟩), .agg #[.string ⟨#[104, 97, 108, 116]⟩, .string ⟨#[45, 45, 45, 45]⟩], .agg #[.string ⟨#[115, 101, 116]⟩, .string ⟨#[114, 45, 45, 110]⟩], .agg #[.string ⟨#[99, 111, 112, 121]⟩, .string ⟨#[114, 114, 45, 45]⟩], .agg #[.string ⟨#[97, 100, 100]⟩, .string ⟨#[114, 114, 114, 45]⟩], .agg #[.string ⟨#[115, 117, 98]⟩, .string ⟨#[114, 114, 114, 45]⟩], .agg #[.string ⟨#[109, 117, 108]⟩, .string ⟨#[114, 114, 114, 45]⟩], .agg #[.string ⟨#[100, 105, 118]⟩, .string ⟨#[114, 114, 114, 45]⟩], .agg #[.string ⟨#[106, 117, 109, 112]⟩, .string ⟨#[45, 45, 45, 116]⟩], .agg #[.string ⟨#[122, 101, 114, 111]⟩, .string ⟨#[114, 45, 45, 116]⟩], .agg #[.string ⟨#[115, 97, 109, 101]⟩, .string ⟨#[114, 114, 45, 116]⟩], .agg #[.string ⟨#[108, 111, 111, 107]⟩, .string ⟨#[114, 103, 45, 45]⟩], .agg #[.string ⟨#[112, 117, 116]⟩, .string ⟨#[103, 114, 45, 45]⟩], .agg #[.string ⟨#[115, 119, 97, 112]⟩, .string ⟨#[114, 114, 114, 103]⟩], .agg #[.string ⟨#[108, 111, 97, 100]⟩, .string ⟨#[114, 114, 45, 102]⟩], .agg #[.string ⟨#[115, 116, 111, 114, 101]⟩, .string ⟨#[114, 114, 45, 102]⟩], .agg #[.string ⟨#[99, 97, 115]⟩, .string ⟨#[114, 114, 114, 102]⟩], .agg #[.string ⟨#[102, 101, 110, 99, 101]⟩, .string ⟨#[45, 45, 45, 45]⟩], .agg #[.string ⟨#[110, 101, 119]⟩, .string ⟨#[114, 45, 45, 45]⟩], .agg #[.string ⟨#[102, 114, 101, 101]⟩, .string ⟨#[114, 45, 45, 45]⟩], .agg #[.string ⟨#[114, 101, 116, 105, 114, 101]⟩, .string ⟨#[114, 45, 45, 45]⟩], .agg #[.string ⟨#[103, 117, 97, 114, 100]⟩, .string ⟨#[114, 45, 45, 115]⟩], .agg #[.string ⟨#[99, 108, 101, 97, 114]⟩, .string ⟨#[45, 45, 45, 115]⟩], .agg #[.string ⟨#[101, 110, 116, 101, 114]⟩, .string ⟨#[45, 45, 45, 45]⟩], .agg #[.string ⟨#[108, 101, 97, 118, 101]⟩, .string ⟨#[45, 45, 45, 45]⟩], .agg #[.string ⟨#[113, 117, 105, 101, 116]⟩, .string ⟨#[45, 45, 45, 45]⟩], undef], []⟩
def op_kinds.a26 (b : Nat) : Act := ⟨#[.pointer (some ⟨b, 0, none⟩), .agg #[.string ⟨#[104, 97, 108, 116]⟩, .string ⟨#[45, 45, 45, 45]⟩], .agg #[.string ⟨#[115, 101, 116]⟩, .string ⟨#[114, 45, 45, 110]⟩], .agg #[.string ⟨#[99, 111, 112, 121]⟩, .string ⟨#[114, 114, 45, 45]⟩], .agg #[.string ⟨#[97, 100, 100]⟩, .string ⟨#[114, 114, 114, 45]⟩], .agg #[.string ⟨#[115, 117, 98]⟩, .string ⟨#[114, 114, 114, 45]⟩], .agg #[.string ⟨#[109, 117, 108]⟩, .string ⟨#[114, 114, 114, 45]⟩], .agg #[.string ⟨#[100, 105, 118]⟩, .string ⟨#[114, 114, 114, 45]⟩], .agg #[.string ⟨#[106, 117, 109, 112]⟩, .string ⟨#[45, 45, 45, 116]⟩], .agg #[.string ⟨#[122, 101, 114, 111]⟩, .string ⟨#[114, 45, 45, 116]⟩], .agg #[.string ⟨#[115, 97, 109, 101]⟩, .string ⟨#[114, 114, 45, 116]⟩], .agg #[.string ⟨#[108, 111, 111, 107]⟩, .string ⟨#[114, 103, 45, 45]⟩], .agg #[.string ⟨#[112, 117, 116]⟩, .string ⟨#[103, 114, 45, 45]⟩], .agg #[.string ⟨#[115, 119, 97, 112]⟩, .string ⟨#[114, 114, 114, 103]⟩], .agg #[.string ⟨#[108, 111, 97, 100]⟩, .string ⟨#[114, 114, 45, 102]⟩], .agg #[.string ⟨#[115, 116, 111, 114, 101]⟩, .string ⟨#[114, 114, 45, 102]⟩], .agg #[.string ⟨#[99, 97, 115]⟩, .string ⟨#[114, 114, 114, 102]⟩], .agg #[.string ⟨#[102, 101, 110, 99, 101]⟩, .string ⟨#[45, 45, 45, 45]⟩], .agg #[.string ⟨#[110, 101, 119]⟩, .string ⟨#[114, 45, 45, 45]⟩], .agg #[.string ⟨#[102, 114, 101, 101]⟩, .string ⟨#[114, 45, 45, 45]⟩], .agg #[.string ⟨#[114, 101, 116, 105, 114, 101]⟩, .string ⟨#[114, 45, 45, 45]⟩], .agg #[.string ⟨#[103, 117, 97, 114, 100]⟩, .string ⟨#[114, 45, 45, 115]⟩], .agg #[.string ⟨#[99, 108, 101, 97, 114]⟩, .string ⟨#[45, 45, 45, 115]⟩], .agg #[.string ⟨#[101, 110, 116, 101, 114]⟩, .string ⟨#[45, 45, 45, 45]⟩], .agg #[.string ⟨#[108, 101, 97, 118, 101]⟩, .string ⟨#[45, 45, 45, 45]⟩], .agg #[.string ⟨#[113, 117, 105, 101, 116]⟩, .string ⟨#[45, 45, 45, 45]⟩], .agg op_kinds.cells.toArray], []⟩
theorem op_kinds.one {P : Program} {ops : Array Oper} {rest : List Oper} {o : Oper} {a a' : Act} {w w' : World} {Q : Exit → Act → World → Prop} (v : Value) (hg : o.guard = none)
    (hv : (execOp a.eval o).run P w = .ok (.value v) w') (ha : a.put o.dst v = a') (h : wpList P ops Q rest a' w') : wpList P ops Q (o :: rest) a w := by
  subst ha
  refine wpList_plain hg fun K hK => ?_
  unfold Oper.wp
  rw [hv, Oper.upon_value]
  exact hK _ _ h
theorem op_kinds.there {w : World} {g : Nat} {t : TypeId} {cs : Array Value} (h : w.heap[g]? = some (.cells cs t (0, 0))) : w.there g 0 cs.size := fun j hj => by
  have h1 := blk_cell h (0 + j)
  have h2 := blk_frozen h (0 + j)
  refine ⟨?_, h2⟩
  rw [h1, Nat.zero_add]
  simp [hj]
theorem op_kinds.row {w : World} {g : Nat} {t : TypeId} {cs : Array Value} (vs : List Value) (h : w.heap[g]? = some (.cells cs t (0, 0))) (hl : vs.length = cs.size) : (w.setCells g 0 vs).heap[g]? = some (.cells vs.toArray t (0, 0)) := by
  obtain ⟨cur', h1, _, h3⟩ := setCells_row vs 0 w cs h (by omega)
  rw [h1]
  have : cur' = vs.toArray := by
    apply Array.toList_inj.1
    rw [h3]
    simp only [List.take_zero, List.nil_append, Nat.zero_add]
    rw [List.drop_of_length_le (by simp; omega)]
    simp
  rw [this]
theorem op_kinds.far {w w1 : World} {g : Nat} (vs : List Value) (h : Below w.heap.size w w1) (hg : w.heap.size ≤ g) : Below w.heap.size w (w1.setCells g 0 vs) := by
  obtain ⟨s1, s2, s3, s4⟩ := setCells_same g vs 0 w1
  exact ⟨s1.trans h.os, s2.trans h.tape, s3.trans h.output, by rw [s4]; exact h.size, fun k hk => (setCells_far vs 0 k (by omega)).trans (h.block k hk)⟩
theorem op_kinds.len : op_kinds.cells.length = 52 := by decide +kernel
theorem op_kinds.zlen : op_kinds.zero.length = 52 := by decide +kernel
def op_kinds.f : Option Unit := some ()
set_option maxHeartbeats 8000000 in
set_option maxRecDepth 100000 in
theorem op_kinds.calls (w : World) : Calls Try.prog 65 #[] w fun e w' => e = .returned (.agg op_kinds.cells.toArray) ∧ Below w.heap.size w w' := by
  have hu := Try.underlying100
  go_enter Try.func65, Try.ntmps65
  generalize hb : w.heap.size = b
  refine wp_seq (wp_region_list ?_)
  refine op_kinds.one (w' := w.alloc (.cells op_kinds.zero.toArray 100)) (a' := op_kinds.a0 b) (.pointer (some ⟨b, 0, none⟩)) rfl (by subst hb; kernel_rfl) (by kernel_rfl) ?_
  have hN : (w.alloc (.cells op_kinds.zero.toArray 100)).heap[b]? = some (.cells op_kinds.zero.toArray 100 (0, 0)) := by subst hb; exact blk_new _ _
  have hB : Below w.heap.size w (w.alloc (.cells op_kinds.zero.toArray 100)) := below_alloc (Below.refl _ _) _
  generalize w.alloc (.cells op_kinds.zero.toArray 100) = w1 at hN hB ⊢
  refine wpList_nil ?_
  refine wp_seq (wp_region_list ?_)
  refine op_kinds.one (w' := w1) (a' := op_kinds.a1 b) (.agg #[.string ⟨#[104, 97, 108, 116]⟩, .string ⟨#[45, 45, 45, 45]⟩]) rfl (by kernel_rfl) (by kernel_rfl) ?_
  refine op_kinds.one (w' := w1) (a' := op_kinds.a2 b) (.agg #[.string ⟨#[115, 101, 116]⟩, .string ⟨#[114, 45, 45, 110]⟩]) rfl (by kernel_rfl) (by kernel_rfl) ?_
  refine op_kinds.one (w' := w1) (a' := op_kinds.a3 b) (.agg #[.string ⟨#[99, 111, 112, 121]⟩, .string ⟨#[114, 114, 45, 45]⟩]) rfl (by kernel_rfl) (by kernel_rfl) ?_
  refine op_kinds.one (w' := w1) (a' := op_kinds.a4 b) (.agg #[.string ⟨#[97, 100, 100]⟩, .string ⟨#[114, 114, 114, 45]⟩]) rfl (by kernel_rfl) (by kernel_rfl) ?_
  refine op_kinds.one (w' := w1) (a' := op_kinds.a5 b) (.agg #[.string ⟨#[115, 117, 98]⟩, .string ⟨#[114, 114, 114, 45]⟩]) rfl (by kernel_rfl) (by kernel_rfl) ?_
  refine op_kinds.one (w' := w1) (a' := op_kinds.a6 b) (.agg #[.string ⟨#[109, 117, 108]⟩, .string ⟨#[114, 114, 114, 45]⟩]) rfl (by kernel_rfl) (by kernel_rfl) ?_
  refine op_kinds.one (w' := w1) (a' := op_kinds.a7 b) (.agg #[.string ⟨#[100, 105, 118]⟩, .string ⟨#[114, 114, 114, 45]⟩]) rfl (by kernel_rfl) (by kernel_rfl) ?_
  refine op_kinds.one (w' := w1) (a' := op_kinds.a8 b) (.agg #[.string ⟨#[106, 117, 109, 112]⟩, .string ⟨#[45, 45, 45, 116]⟩]) rfl (by kernel_rfl) (by kernel_rfl) ?_
  refine op_kinds.one (w' := w1) (a' := op_kinds.a9 b) (.agg #[.string ⟨#[122, 101, 114, 111]⟩, .string ⟨#[114, 45, 45, 116]⟩]) rfl (by kernel_rfl) (by kernel_rfl) ?_
  refine op_kinds.one (w' := w1) (a' := op_kinds.a10 b) (.agg #[.string ⟨#[115, 97, 109, 101]⟩, .string ⟨#[114, 114, 45, 116]⟩]) rfl (by kernel_rfl) (by kernel_rfl) ?_
  refine op_kinds.one (w' := w1) (a' := op_kinds.a11 b) (.agg #[.string ⟨#[108, 111, 111, 107]⟩, .string ⟨#[114, 103, 45, 45]⟩]) rfl (by kernel_rfl) (by kernel_rfl) ?_
  refine op_kinds.one (w' := w1) (a' := op_kinds.a12 b) (.agg #[.string ⟨#[112, 117, 116]⟩, .string ⟨#[103, 114, 45, 45]⟩]) rfl (by kernel_rfl) (by kernel_rfl) ?_
  refine op_kinds.one (w' := w1) (a' := op_kinds.a13 b) (.agg #[.string ⟨#[115, 119, 97, 112]⟩, .string ⟨#[114, 114, 114, 103]⟩]) rfl (by kernel_rfl) (by kernel_rfl) ?_
  refine op_kinds.one (w' := w1) (a' := op_kinds.a14 b) (.agg #[.string ⟨#[108, 111, 97, 100]⟩, .string ⟨#[114, 114, 45, 102]⟩]) rfl (by kernel_rfl) (by kernel_rfl) ?_
  refine op_kinds.one (w' := w1) (a' := op_kinds.a15 b) (.agg #[.string ⟨#[115, 116, 111, 114, 101]⟩, .string ⟨#[114, 114, 45, 102]⟩]) rfl (by kernel_rfl) (by kernel_rfl) ?_
  refine op_kinds.one (w' := w1) (a' := op_kinds.a16 b) (.agg #[.string ⟨#[99, 97, 115]⟩, .string ⟨#[114, 114, 114, 102]⟩]) rfl (by kernel_rfl) (by kernel_rfl) ?_
  refine op_kinds.one (w' := w1) (a' := op_kinds.a17 b) (.agg #[.string ⟨#[102, 101, 110, 99, 101]⟩, .string ⟨#[45, 45, 45, 45]⟩]) rfl (by kernel_rfl) (by kernel_rfl) ?_
  refine op_kinds.one (w' := w1) (a' := op_kinds.a18 b) (.agg #[.string ⟨#[110, 101, 119]⟩, .string ⟨#[114, 45, 45, 45]⟩]) rfl (by kernel_rfl) (by kernel_rfl) ?_
  refine op_kinds.one (w' := w1) (a' := op_kinds.a19 b) (.agg #[.string ⟨#[102, 114, 101, 101]⟩, .string ⟨#[114, 45, 45, 45]⟩]) rfl (by kernel_rfl) (by kernel_rfl) ?_
  refine op_kinds.one (w' := w1) (a' := op_kinds.a20 b) (.agg #[.string ⟨#[114, 101, 116, 105, 114, 101]⟩, .string ⟨#[114, 45, 45, 45]⟩]) rfl (by kernel_rfl) (by kernel_rfl) ?_
  refine op_kinds.one (w' := w1) (a' := op_kinds.a21 b) (.agg #[.string ⟨#[103, 117, 97, 114, 100]⟩, .string ⟨#[114, 45, 45, 115]⟩]) rfl (by kernel_rfl) (by kernel_rfl) ?_
  refine op_kinds.one (w' := w1) (a' := op_kinds.a22 b) (.agg #[.string ⟨#[99, 108, 101, 97, 114]⟩, .string ⟨#[45, 45, 45, 115]⟩]) rfl (by kernel_rfl) (by kernel_rfl) ?_
  refine op_kinds.one (w' := w1) (a' := op_kinds.a23 b) (.agg #[.string ⟨#[101, 110, 116, 101, 114]⟩, .string ⟨#[45, 45, 45, 45]⟩]) rfl (by kernel_rfl) (by kernel_rfl) ?_
  refine op_kinds.one (w' := w1) (a' := op_kinds.a24 b) (.agg #[.string ⟨#[108, 101, 97, 118, 101]⟩, .string ⟨#[45, 45, 45, 45]⟩]) rfl (by kernel_rfl) (by kernel_rfl) ?_
  refine op_kinds.one (w' := w1) (a' := op_kinds.a25 b) (.agg #[.string ⟨#[113, 117, 105, 101, 116]⟩, .string ⟨#[45, 45, 45, 45]⟩]) rfl (by kernel_rfl) (by kernel_rfl) ?_
  refine op_kinds.one (w' := w1) (a' := op_kinds.a26 b) (.agg op_kinds.cells.toArray) rfl (by kernel_rfl) (by kernel_rfl) ?_
  refine wpList_store_mid rfl 100 (.tmp 0) (.tmp 26) rfl b 0 op_kinds.cells.toArray rfl rfl ?_ (by kernel_rfl) (by decide +kernel) ?_
  · have := op_kinds.there hN
    rw [List.size_toArray, op_kinds.zlen] at this
    rw [List.size_toArray, op_kinds.len]
    exact this
  refine wpList_nil ?_
  refine wp_ret ?_
  refine bodyPost_ret (results_single rfl (.cell b 100 op_kinds.cells.toArray (0, 0) _ rfl ?_ hu rfl (by kernel_rfl) .nil)) rfl ?_
  · exact op_kinds.row _ hN (by rw [List.size_toArray, op_kinds.zlen]; exact op_kinds.len)
  · subst hb; exact ⟨rfl, op_kinds.far _ hB (Nat.le_refl _)⟩
theorem op_of.call {P : Program} {ops : Array Oper} {rest : List Oper} {o : Oper} {a : Act} {w : World} {Q : Exit → Act → World → Prop} {f : FuncId} {args : Array Value} {R : Ending → World → Prop} (hc : Calls P f args w R) (hg : o.guard = none)
    (hv : (execOp a.eval o).run P w = .ok (.enter f args) w) (h : ∀ e w', R e w' → ∃ v, e = .returned v ∧ wpList P ops Q rest (a.put o.dst v) w') : wpList P ops Q (o :: rest) a w := by
  refine wpList_plain hg fun K hK => ?_
  unfold Oper.wp
  rw [hv, Oper.upon_enter]
  refine hc.mono ?_
  intro e w' hR
  obtain ⟨v, rfl, hw⟩ := h e w' hR
  exact hK _ _ hw
def op_of.a0 (x : Int) (g : Nat) : Act := ⟨#[.int .i64 x, undef, .pointer (some ⟨g, 0, none⟩), undef, undef, undef, undef, undef, undef, undef, undef, undef, undef, undef, undef], []⟩
def op_of.a1 (x : Int) (g : Nat) : Act := ⟨#[.int .i64 x, undef, .pointer (some ⟨g, 0, none⟩), undef, .agg op_kinds.cells.toArray, undef, undef, undef, undef, undef, undef, undef, undef, undef, undef], []⟩
def op_of.a2 (x : Int) (g g3 : Nat) : Act := ⟨#[.int .i64 x, undef, .pointer (some ⟨g, 0, none⟩), .pointer (some ⟨g3, 0, none⟩), .agg op_kinds.cells.toArray, undef, undef, undef, undef, undef, undef, undef, undef, undef, undef], []⟩
theorem op_of.toList : op_kinds.cells.toArray.toList = op_kinds.cells := rfl
def op_of.f (a0 : Int) : Option (ByteArray × ByteArray) := some (if 0 ≤ a0 ∧ a0 < 26 then (op_kinds.strs.getD (a0.toNat * 2) ⟨#[]⟩, op_kinds.strs.getD (a0.toNat * 2 + 1) ⟨#[]⟩) else (⟨#[]⟩, ⟨#[]⟩))
theorem op_of.cell (i : Nat) (h : i < 52) : op_kinds.cells.toArray[i]? = some (.string (op_kinds.strs.getD i ⟨#[]⟩)) := by
  have hl : op_kinds.strs.length = 52 := by decide +kernel
  unfold op_kinds.cells
  rw [List.getElem?_toArray, List.getElem?_map, List.getD_eq_getElem?_getD, List.getElem?_eq_getElem (by omega)]
  rfl
set_option maxHeartbeats 8000000 in
set_option maxRecDepth 100000 in
theorem op_of.calls (a0 : Int) (r1 r2 : ByteArray) (w : World) (h : op_of.f a0 = some (r1, r2)) : Calls Try.prog 53 #[.int .i64 a0] w fun e w' => e = .returned (.agg #[.string r1, .string r2]) ∧ Below w.heap.size w w' := by
  have hu := Try.underlying87
  have hu72 := Try.underlying100
  go_enter Try.func53, Try.ntmps53
  have hB0 := below_alloc (Below.refl w.heap.size w) (.cells #[.string ⟨#[]⟩, .string ⟨#[]⟩] 87)
  have hN0 := blk_new w (.cells #[.string ⟨#[]⟩, .string ⟨#[]⟩] 87)
  generalize hb : w.heap.size = g at hN0
  refine wp_seq (wp_region_list ?_)
  refine op_kinds.one (w' := w.alloc (.cells #[.string ⟨#[]⟩, .string ⟨#[]⟩] 87)) (a' := op_of.a0 a0 g) (.pointer (some ⟨g, 0, none⟩)) rfl (by subst hb; kernel_rfl) (by kernel_rfl) ?_
  generalize w.alloc (.cells #[.string ⟨#[]⟩, .string ⟨#[]⟩] 87) = w1 at hB0 hN0 ⊢
  refine wpList_nil ?_
  refine wp_seq (wp_region_list ?_)
  refine op_of.call (op_kinds.calls w1) rfl (by kernel_rfl) ?_
  rintro e w2 ⟨rfl, hb2⟩
  refine ⟨_, rfl, ?_⟩
  have hB2 := below_step hB0 hb2
  have hN2 := (hb2.block g (blk_lt hN0)).trans hN0
  have hB3 := below_alloc hB2 (.cells op_kinds.zero.toArray 100)
  have hN3 := blk_alloc hN2 (.cells op_kinds.zero.toArray 100)
  have hM3 := blk_new w2 (.cells op_kinds.zero.toArray 100)
  have hg3 : g < w2.heap.size := blk_lt hN2
  generalize hb3 : w2.heap.size = g3 at hM3 hg3
  refine op_kinds.one (w' := w2.alloc (.cells op_kinds.zero.toArray 100)) (a' := op_of.a2 a0 g g3) (.pointer (some ⟨g3, 0, none⟩)) rfl (by subst hb3; kernel_rfl) (by kernel_rfl) ?_
  generalize w2.alloc (.cells op_kinds.zero.toArray 100) = w3 at hB3 hN3 hM3 ⊢
  refine wpList_store_mid rfl 100 (.tmp 3) (.tmp 4) rfl g3 0 op_kinds.cells.toArray rfl rfl ?_ (by kernel_rfl) (by decide +kernel) ?_
  · have := op_kinds.there hM3
    rw [List.size_toArray, op_kinds.zlen] at this
    rw [List.size_toArray, op_kinds.len]
    exact this
  refine wpList_nil ?_
  have hM4 := op_kinds.row op_kinds.cells.toArray.toList hM3 (by rw [List.size_toArray, op_kinds.zlen]; exact op_kinds.len)
  have hN4 : (w3.setCells g3 0 op_kinds.cells.toArray.toList).heap[g]? = some (.cells #[.string ⟨#[]⟩, .string ⟨#[]⟩] 87 (0, 0)) := (setCells_far _ 0 g (by omega)).trans hN3
  have hB4 : Below w.heap.size w (w3.setCells g3 0 op_kinds.cells.toArray.toList) := op_kinds.far _ hB3 (by have := hB2.size; omega)
  generalize w3.setCells g3 0 op_kinds.cells.toArray.toList = w4 at hM4 hN4 hB4 ⊢
  rw [op_of.toList] at hM4
  clear hB0 hN0 hb2 hB2 hN2 hB3 hN3 hM3
  have c0 := blk_cell hN4 0
  have c1 := blk_cell hN4 1
  have f0 := blk_frozen hN4 0
  have f1 := blk_frozen hN4 1
  simp only [List.getElem?_toArray, List.getElem?_cons_zero, List.getElem?_cons_succ] at c0 c1
  show Code.wp _ _ _ (Act.put (op_of.a2 a0 g g3) none undef) w4
  simp only [Act.put, op_of.a2]
  have hlim : a0.toNat * 2 + 1 < 52 ∨ ¬ (0 ≤ a0 ∧ a0 < 26) := by omega
  by_cases hr : 0 ≤ a0 ∧ a0 < 26
  · have h1 : ¬ a0 < 0 := by omega
    have h2 : ¬ a0 ≥ 26 := by omega
    have hr0 := hr.1
    have hr1 := hr.2
    have d0 := (blk_cell hM4 (a0.toNat * 2)).trans (op_of.cell _ (by omega))
    have d1 := (blk_cell hM4 (a0.toNat * 2 + 1)).trans (op_of.cell _ (by omega))
    unfold op_of.f at h
    rw [if_pos hr] at h
    generalize op_kinds.strs.getD (a0.toNat * 2) ⟨#[]⟩ = s1 at d0 h
    generalize op_kinds.strs.getD (a0.toNat * 2 + 1) ⟨#[]⟩ = s2 at d1 h
    obtain ⟨rfl, rfl⟩ : s1 = r1 ∧ s2 = r2 := by simpa using h
    generalize op_kinds.cells.toArray = V at hM4 ⊢
    clear h hr hM4 hlim
    go_wp2
    refine bodyPost_ret (results_single rfl (.cell g 87 #[.string s1, .string s2] (0, 0) _ rfl (blk_set (blk_set hN4 0 _) 1 _) hu rfl (by kernel_rfl) .nil)) rfl ?_
    rw [hb] at hB4
    exact ⟨rfl, below_far (below_far hB4 (Nat.le_refl _) _) (Nat.le_refl _) _⟩
  · unfold op_of.f at h
    rw [if_neg hr] at h
    obtain ⟨rfl, rfl⟩ : (⟨#[]⟩ : ByteArray) = r1 ∧ (⟨#[]⟩ : ByteArray) = r2 := by simpa using h
    generalize op_kinds.cells.toArray = V at hM4 ⊢
    clear h hM4 hlim
    by_cases h1 : a0 < 0
    · go_wp2
      refine bodyPost_ret (results_single rfl (.cell g 87 #[.string ⟨#[]⟩, .string ⟨#[]⟩] (0, 0) _ rfl (blk_set (blk_set hN4 0 _) 1 _) hu rfl (by kernel_rfl) .nil)) rfl ?_
      rw [hb] at hB4
      exact ⟨rfl, below_far (below_far hB4 (Nat.le_refl _) _) (Nat.le_refl _) _⟩
    · have h2 : a0 ≥ 26 := by omega
      go_wp2
      refine bodyPost_ret (results_single rfl (.cell g 87 #[.string ⟨#[]⟩, .string ⟨#[]⟩] (0, 0) _ rfl (blk_set (blk_set hN4 0 _) 1 _) hu rfl (by kernel_rfl) .nil)) rfl ?_
      rw [hb] at hB4
      exact ⟨rfl, below_far (below_far hB4 (Nat.le_refl _) _) (Nat.le_refl _) _⟩

/-! ### op_Name: function 36 (proved by hand) -/
def op_Name.f (a0 : Int) : Option ByteArray := (op_of.f a0).bind fun x => some x.1
set_option maxHeartbeats 8000000 in
set_option maxRecDepth 100000 in
theorem op_Name.calls (a0 : Int) (r : ByteArray) (w : World) (h : op_Name.f a0 = some r) : Calls Try.prog 36 #[.int .i64 a0] w fun e w' => e = .returned (.string r) ∧ Below w.heap.size w w' := by
  have hu := Try.underlying87
  obtain ⟨r1, r2, h0⟩ : ∃ r1 r2, op_of.f a0 = some (r1, r2) := ⟨_, _, rfl⟩
  have hf : ∀ W : World, (Instr.field 87 (.agg #[.string r1, .string r2]) 0).run Try.prog W = .ok (.string r1) W := fun W => by kernel_rfl
  have hr : r1 = r := by simpa [op_Name.f, h0] using h
  subst hr
  clear h
  have H := Aside0.mk h0
  clear h0
  have HB := Aside0.mk (Below.refl w.heap.size w)
  go_enter Try.func36, Try.ntmps36
  go_wp2_with (go_at_call 53; refine (op_of.calls a0 r1 r2 _ H.out).mono ?_; rintro e w1 ⟨rfl, hb⟩; have HB1 := Aside0.mk (below_step HB.out hb); clear hb HB)
  go_ret
  exact ⟨rfl, HB1.out⟩

/-! ### op_Shares: function 37 -/
def op_Shares.f (a0 : Int) : Option (Bool) := if 11 ≤ a0 then (if a0 ≤ 16 then (some true) else (if 18 ≤ a0 then (some (decide (a0 ≤ 25))) else (some false))) else (if 18 ≤ a0 then (some (decide (a0 ≤ 25))) else (some false))
set_option maxHeartbeats 8000000 in
set_option maxRecDepth 100000 in
theorem op_Shares.calls (a0 : Int) (r : Bool) (w : World) (h : op_Shares.f a0 = some r) :
    Calls Try.prog 37 #[.int .i64 a0] w fun e w' => e = .returned (.bool r) ∧ Drawn0 w w' := by
  have H : (if 11 ≤ a0 then (if a0 ≤ 16 then (some true) else (if 18 ≤ a0 then (some (decide (a0 ≤ 25))) else (some false))) else (if 18 ≤ a0 then (some (decide (a0 ≤ 25))) else (some false))) = some r := h
  clear h
  by_cases c2 : 11 ≤ a0
  · rw [if_pos c2] at H
    have c2b0 : decide (11 ≤ a0) = true := decide_eq_true c2
    clear c2
    by_cases c3 : a0 ≤ 16
    · rw [if_pos c3] at H
      have c3b0 : decide (a0 ≤ 16) = true := decide_eq_true c3
      clear c3
      obtain rfl := Option.some.inj H
      go_enter Try.func37, Try.ntmps37
      go_wp2
      go_ret
      exact ⟨by first | rfl | (simp; done) | (simp [*]; done), by repeat (first | exact Drawn0.refl _ | apply Drawn0.step)⟩
    · rw [if_neg c3] at H
      have c3b0 : decide (a0 ≤ 16) = false := decide_eq_false c3
      clear c3
      by_cases c4 : 18 ≤ a0
      · rw [if_pos c4] at H
        have c4b0 : decide (18 ≤ a0) = true := decide_eq_true c4
        clear c4
        obtain rfl := Option.some.inj H
        go_enter Try.func37, Try.ntmps37
        go_wp2
        go_ret
        exact ⟨by first | rfl | (simp; done) | (simp [*]; done), by repeat (first | exact Drawn0.refl _ | apply Drawn0.step)⟩
      · rw [if_neg c4] at H
        have c4b0 : decide (18 ≤ a0) = false := decide_eq_false c4
        clear c4
        obtain rfl := Option.some.inj H
        go_enter Try.func37, Try.ntmps37
        go_wp2
        go_ret
        exact ⟨by first | rfl | (simp; done) | (simp [*]; done), by repeat (first | exact Drawn0.refl _ | apply Drawn0.step)⟩
  · rw [if_neg c2] at H
    have c2b0 : decide (11 ≤ a0) = false := decide_eq_false c2
    clear c2
    by_cases c5 : 18 ≤ a0
    · rw [if_pos c5] at H
      have c5b0 : decide (18 ≤ a0) = true := decide_eq_true c5
      clear c5
      obtain rfl := Option.some.inj H
      go_enter Try.func37, Try.ntmps37
      go_wp2
      go_ret
      exact ⟨by first | rfl | (simp; done) | (simp [*]; done), by repeat (first | exact Drawn0.refl _ | apply Drawn0.step)⟩
    · rw [if_neg c5] at H
      have c5b0 : decide (18 ≤ a0) = false := decide_eq_false c5
      clear c5
      obtain rfl := Option.some.inj H
      go_enter Try.func37, Try.ntmps37
      go_wp2
      go_ret
      exact ⟨by first | rfl | (simp; done) | (simp [*]; done), by repeat (first | exact Drawn0.refl _ | apply Drawn0.step)⟩

/-! ### tag_Plain: function 38 -/
def tag_Plain.f (a0 : Int) : Option (Int × Int × Int) := some (a0, 0, 0)
set_option maxHeartbeats 8000000 in
set_option maxRecDepth 100000 in
theorem tag_Plain.calls (a0 : Int) (r1 : Int) (r2 : Int) (r3 : Int) (w : World) (h : tag_Plain.f a0 = some (r1, r2, r3)) :
    Calls Try.prog 38 #[.int .i64 a0] w fun e w' => e = .returned (.agg #[.int .i64 r1, .int .i64 r2, .int .i64 r3]) ∧ Below w.heap.size w w' := by
  have hu25 := Try.underlying25
  have HB := Aside0.mk (Below.refl w.heap.size w)
  have H : (some (a0, 0, 0)) = some (r1, r2, r3) := h
  clear h
  simp only [Option.some.injEq, Prod.mk.injEq] at H
  obtain ⟨rfl, rfl, rfl⟩ := H
  go_enter Try.func38, Try.ntmps38
  go_wp2_with (first | ((with_reducible refine gate_dst (N := 2) rfl ?_); refine box_event ?hg (N := 2) ?hd (cs := #[.int .i64 0, .int .i64 0, .int .i64 0]) (t := 25) ?hr ?_; (case hd => rfl); (case hg => rfl); (case hr => first | (go_simp; done) | (go_simp; rfl)); intro gb101 hg w2 hbox hb; have n0_ := Aside0.mk (below_step (by repeat (first | (with_reducible first | exact HB.out | apply below_alloc | apply pw_below_drewN | apply below_drew1) | exact HB.out)) hb); have n1_ := Aside0.mk (hbox); have n2_ := Aside0.mk ((by rw [hg]; exact (below_size (by repeat (first | (with_reducible first | exact HB.out | apply below_alloc | apply pw_below_drewN | apply below_drew1) | exact HB.out))) : w.heap.size ≤ gb101)); have n3_ := Aside0.mk ((by rw [hg]; exact (below_size (by repeat (first | (with_reducible first | exact HB.out | apply below_alloc | apply pw_below_drewN | apply below_drew1) | exact HB.out))) : w.heap.size ≤ gb101)); clear HB; have HB := n0_; have BK101 := n1_; have GW101 := n2_; have GE101 := n3_; clear n0_ n1_ n2_ n3_; clear hb hbox hg; have hcz3_0 : w2.cell? ⟨gb101, 0, none⟩ = some (.int .i64 0) := (blk_cell BK101.out 0).trans rfl; have hcz3_1 : w2.cell? ⟨gb101, 1, none⟩ = some (.int .i64 0) := (blk_cell BK101.out 1).trans rfl; have hcz3_2 : w2.cell? ⟨gb101, 2, none⟩ = some (.int .i64 0) := (blk_cell BK101.out 2).trans rfl; have hfz3_0 := blk_frozen BK101.out 0; have hfz3_1 := blk_frozen BK101.out 1; have hfz3_2 := blk_frozen BK101.out 2))
  refine bodyPost_ret (results_cell_row rfl _ _ gb101 25 #[.int .i64 a0, .int .i64 0, .int .i64 0] (0, 0) _ rfl (by (with_reducible repeat (first | refine blk_drewN ?_ _ | refine blk_drew ?_ | refine blk_alloc ?_ _)); refine blk_put (cs := #[.int .i64 a0, .int .i64 0, .int .i64 0]) ?_ 2 _ rfl; (with_reducible repeat (first | refine blk_drewN ?_ _ | refine blk_drew ?_ | refine blk_alloc ?_ _)); refine blk_put (cs := #[.int .i64 a0, .int .i64 0, .int .i64 0]) ?_ 1 _ rfl; (with_reducible repeat (first | refine blk_drewN ?_ _ | refine blk_drew ?_ | refine blk_alloc ?_ _)); refine blk_put (cs := #[.int .i64 0, .int .i64 0, .int .i64 0]) ?_ 0 _ rfl; (with_reducible repeat (first | refine blk_drewN ?_ _ | refine blk_drew ?_ | refine blk_alloc ?_ _)); exact BK101.out) Try.underlying25 rfl (by kernel_rfl)) rfl ?_
  exact ⟨by first | rfl | (simp [errW_none, errW_some] <;> rfl) | (simp [*, errW_none, errW_some] <;> rfl), by repeat (first | (with_reducible first | exact HB.out | apply below_alloc | apply pw_below_drewN | apply below_drew1 | refine below_set ?_ GE101.out) | exact HB.out)⟩

/-! ### tag_Equal: function 39 -/
def tag_Equal.f (a0_0 : Int) (a0_1 : Int) (a0_2 : Int) (a1_0 : Int) (a1_1 : Int) (a1_2 : Int) : Option (Bool) := some (a0_0 == a1_0)
set_option maxHeartbeats 8000000 in
set_option maxRecDepth 100000 in
theorem tag_Equal.calls (a0_0 : Int) (a0_1 : Int) (a0_2 : Int) (a1_0 : Int) (a1_1 : Int) (a1_2 : Int) (r : Bool) (w : World) (h : tag_Equal.f a0_0 a0_1 a0_2 a1_0 a1_1 a1_2 = some r) :
    Calls Try.prog 39 #[.agg #[.int .i64 a0_0, .int .i64 a0_1, .int .i64 a0_2], .agg #[.int .i64 a1_0, .int .i64 a1_1, .int .i64 a1_2]] w fun e w' => e = .returned (.bool r) ∧ Below w.heap.size w w' := by
  have hu25 := Try.underlying25
  have HB := Aside0.mk (Below.refl w.heap.size w)
  have H : (some (a0_0 == a1_0)) = some r := h
  clear h
  obtain rfl := Option.some.inj H
  go_enter Try.func39, Try.ntmps39
  go_wp2_with (first | ((with_reducible refine gate_dst (N := 2) rfl ?_); refine box_event ?hg (N := 2) ?hd (cs := #[.int .i64 a0_0, .int .i64 a0_1, .int .i64 a0_2]) (t := 25) ?hr ?_; (case hd => rfl); (case hg => rfl); (case hr => first | (go_simp; done) | (go_simp; rfl)); intro gb102 hg w3 hbox hb; have n0_ := Aside0.mk (below_step (by repeat (first | (with_reducible first | exact HB.out | apply below_alloc | apply pw_below_drewN | apply below_drew1) | exact HB.out)) hb); have n1_ := Aside0.mk (hbox); have n2_ := Aside0.mk ((by rw [hg]; exact (below_size (by repeat (first | (with_reducible first | exact HB.out | apply below_alloc | apply pw_below_drewN | apply below_drew1) | exact HB.out))) : w.heap.size ≤ gb102)); have n3_ := Aside0.mk ((by rw [hg]; exact (below_size (by repeat (first | (with_reducible first | exact HB.out | apply below_alloc | apply pw_below_drewN | apply below_drew1) | exact HB.out))) : w.heap.size ≤ gb102)); clear HB; have HB := n0_; have BK102 := n1_; have GW102 := n2_; have GE102 := n3_; clear n0_ n1_ n2_ n3_; clear hb hbox hg) | ((with_reducible refine gate_dst (N := 3) rfl ?_); refine box_event ?hg (N := 3) ?hd (cs := #[.int .i64 a1_0, .int .i64 a1_1, .int .i64 a1_2]) (t := 25) ?hr ?_; (case hd => rfl); (case hg => rfl); (case hr => first | (go_simp; done) | (go_simp; rfl)); intro gb103 hg w4 hbox hb; have n0_ := Aside0.mk (blk_below (g := gb102) (o := .cells #[.int .i64 a0_0, .int .i64 a0_1, .int .i64 a0_2] 25 (0, 0)) (by (with_reducible repeat (first | refine blk_drewN ?_ _ | refine blk_drew ?_ | refine blk_alloc ?_ _)); exact BK102.out) hb); have n1_ := Aside0.mk (below_step (by repeat (first | (with_reducible first | exact HB.out | apply below_alloc | apply pw_below_drewN | apply below_drew1 | refine below_set ?_ GE102.out) | exact HB.out)) hb); have n2_ := Aside0.mk (hbox); have n3_ := Aside0.mk ((by rw [hg]; exact (below_size (by repeat (first | (with_reducible first | exact HB.out | apply below_alloc | apply pw_below_drewN | apply below_drew1 | refine below_set ?_ GE102.out) | exact HB.out))) : w.heap.size ≤ gb103)); have n4_ := Aside0.mk ((by rw [hg]; exact (below_size (by repeat (first | (with_reducible first | exact HB.out | apply below_alloc | apply pw_below_drewN | apply below_drew1 | refine below_set ?_ GE102.out) | exact HB.out))) : w.heap.size ≤ gb103)); have n5_ := Aside0.mk ((by rw [hg]; exact Nat.ne_of_lt (blk_lt (g := gb102) (o := .cells #[.int .i64 a0_0, .int .i64 a0_1, .int .i64 a0_2] 25 (0, 0)) (by (with_reducible repeat (first | refine blk_drewN ?_ _ | refine blk_drew ?_ | refine blk_alloc ?_ _)); exact BK102.out)) : gb102 ≠ gb103)); have n6_ := Aside0.mk ((by rw [hg]; exact Nat.ne_of_gt (blk_lt (g := gb102) (o := .cells #[.int .i64 a0_0, .int .i64 a0_1, .int .i64 a0_2] 25 (0, 0)) (by (with_reducible repeat (first | refine blk_drewN ?_ _ | refine blk_drew ?_ | refine blk_alloc ?_ _)); exact BK102.out)) : gb103 ≠ gb102)); clear BK102; clear HB; have BK102 := n0_; have HB := n1_; have BK103 := n2_; have GW103 := n3_; have GE103 := n4_; have NB102_103 := n5_; have NB103_102 := n6_; clear n0_ n1_ n2_ n3_ n4_ n5_ n6_; clear hb hbox hg; have hnb5 := NB102_103.out; have hnc5 := NB103_102.out; have hcz6_0 : w4.cell? ⟨gb102, 0, none⟩ = some (.int .i64 a0_0) := (blk_cell BK102.out 0).trans rfl; have hcz6_1 : w4.cell? ⟨gb102, 1, none⟩ = some (.int .i64 a0_1) := (blk_cell BK102.out 1).trans rfl; have hcz6_2 : w4.cell? ⟨gb102, 2, none⟩ = some (.int .i64 a0_2) := (blk_cell BK102.out 2).trans rfl; have hfz6_0 := blk_frozen BK102.out 0; have hfz6_1 := blk_frozen BK102.out 1; have hfz6_2 := blk_frozen BK102.out 2; have hcz7_0 : w4.cell? ⟨gb103, 0, none⟩ = some (.int .i64 a1_0) := (blk_cell BK103.out 0).trans rfl; have hcz7_1 : w4.cell? ⟨gb103, 1, none⟩ = some (.int .i64 a1_1) := (blk_cell BK103.out 1).trans rfl; have hcz7_2 : w4.cell? ⟨gb103, 2, none⟩ = some (.int .i64 a1_2) := (blk_cell BK103.out 2).trans rfl; have hfz7_0 := blk_frozen BK103.out 0; have hfz7_1 := blk_frozen BK103.out 1; have hfz7_2 := blk_frozen BK103.out 2))
  go_ret
  exact ⟨by first | rfl | (simp [errW_none, errW_some] <;> rfl) | (simp [*, errW_none, errW_some] <;> rfl), by repeat (first | (with_reducible first | exact HB.out | apply below_alloc | apply pw_below_drewN | apply below_drew1 | refine below_set ?_ GE102.out | refine below_set ?_ GE103.out) | exact HB.out)⟩

/-! ### num_Add: function 54 -/
def num_Add.f (a0 : Int) (a1 : Int) : Option (Int) := some (wrap64 (a0 + a1))
set_option maxHeartbeats 8000000 in
set_option maxRecDepth 100000 in
theorem num_Add.calls (a0 : Int) (a1 : Int) (r : Int) (w : World) (h : num_Add.f a0 a1 = some r) :
    Calls Try.prog 54 #[.int .i64 a0, .int .i64 a1] w fun e w' => e = .returned (.int .i64 r) ∧ Drawn0 w w' := by
  have H : (some (wrap64 (a0 + a1))) = some r := h
  clear h
  obtain rfl := Option.some.inj H
  go_enter Try.func54, Try.ntmps54
  go_wp2
  go_ret
  exact ⟨by first | rfl | (simp; done) | (simp [*]; done), by repeat (first | exact Drawn0.refl _ | apply Drawn0.step)⟩

/-! ### num_Sub: function 55 -/
def num_Sub.f (a0 : Int) (a1 : Int) : Option (Int) := some (wrap64 (a0 - a1))
set_option maxHeartbeats 8000000 in
set_option maxRecDepth 100000 in
theorem num_Sub.calls (a0 : Int) (a1 : Int) (r : Int) (w : World) (h : num_Sub.f a0 a1 = some r) :
    Calls Try.prog 55 #[.int .i64 a0, .int .i64 a1] w fun e w' => e = .returned (.int .i64 r) ∧ Drawn0 w w' := by
  have H : (some (wrap64 (a0 - a1))) = some r := h
  clear h
  obtain rfl := Option.some.inj H
  go_enter Try.func55, Try.ntmps55
  go_wp2
  go_ret
  exact ⟨by first | rfl | (simp; done) | (simp [*]; done), by repeat (first | exact Drawn0.refl _ | apply Drawn0.step)⟩

/-! ### num_Mul: function 56 -/
def num_Mul.f (a0 : Int) (a1 : Int) : Option (Int) := some (wrap64 (a0 * a1))
set_option maxHeartbeats 8000000 in
set_option maxRecDepth 100000 in
theorem num_Mul.calls (a0 : Int) (a1 : Int) (r : Int) (w : World) (h : num_Mul.f a0 a1 = some r) :
    Calls Try.prog 56 #[.int .i64 a0, .int .i64 a1] w fun e w' => e = .returned (.int .i64 r) ∧ Drawn0 w w' := by
  have H : (some (wrap64 (a0 * a1))) = some r := h
  clear h
  obtain rfl := Option.some.inj H
  go_enter Try.func56, Try.ntmps56
  go_wp2
  go_ret
  exact ⟨by first | rfl | (simp; done) | (simp [*]; done), by repeat (first | exact Drawn0.refl _ | apply Drawn0.step)⟩

/-! ### num_Div: function 57 -/
def num_Div.f (a0 : Int) (a1 : Int) : Option (Int × Bool) := if a1 = 0 then (some (0, false)) else (if a1 = (-1) then (some (wrap64 (-a0), true)) else (some (wrap64 (Int.tdiv a0 a1), true)))
set_option maxHeartbeats 8000000 in
set_option maxRecDepth 100000 in
theorem num_Div.calls (a0 : Int) (a1 : Int) (r1 : Int) (r2 : Bool) (w : World) (h : num_Div.f a0 a1 = some (r1, r2)) :
    Calls Try.prog 57 #[.int .i64 a0, .int .i64 a1] w fun e w' => e = .returned (.tuple #[.int .i64 r1, .bool r2]) ∧ Drawn0 w w' := by
  have H : (if a1 = 0 then (some (0, false)) else (if a1 = (-1) then (some (wrap64 (-a0), true)) else (some (wrap64 (Int.tdiv a0 a1), true)))) = some (r1, r2) := h
  clear h
  by_cases c3 : a1 = 0
  · rw [if_pos c3] at H
    have c3b0 : (a1 == 0) = true := beq_iff_eq.mpr c3
    have c3b1 : (a1 != 0) = false := bne_eq_false_iff_eq.mpr c3
    clear c3
    simp only [Option.some.injEq, Prod.mk.injEq] at H
    obtain ⟨rfl, rfl⟩ := H
    go_enter Try.func57, Try.ntmps57
    go_wp2
    go_ret2
    exact ⟨by first | rfl | (simp; done) | (simp [*]; done), by repeat (first | exact Drawn0.refl _ | apply Drawn0.step)⟩
  · rw [if_neg c3] at H
    have c3b0 : (a1 == 0) = false := beq_eq_false_iff_ne.mpr c3
    have c3b1 : (a1 != 0) = true := bne_iff_ne.mpr c3
    by_cases c4 : a1 = (-1)
    · rw [if_pos c4] at H
      have c4b0 : (a1 == (-1)) = true := beq_iff_eq.mpr c4
      have c4b1 : (a1 != (-1)) = false := bne_eq_false_iff_eq.mpr c4
      clear c4
      simp only [Option.some.injEq, Prod.mk.injEq] at H
      obtain ⟨rfl, rfl⟩ := H
      go_enter Try.func57, Try.ntmps57
      go_wp2
      go_ret2
      exact ⟨by first | rfl | (simp; done) | (simp [*]; done), by repeat (first | exact Drawn0.refl _ | apply Drawn0.step)⟩
    · rw [if_neg c4] at H
      have c4b0 : (a1 == (-1)) = false := beq_eq_false_iff_ne.mpr c4
      have c4b1 : (a1 != (-1)) = true := bne_iff_ne.mpr c4
      simp only [Option.some.injEq, Prod.mk.injEq] at H
      obtain ⟨rfl, rfl⟩ := H
      go_enter Try.func57, Try.ntmps57
      go_wp2
      go_ret2
      exact ⟨by first | rfl | (simp; done) | (simp [*]; done), by repeat (first | exact Drawn0.refl _ | apply Drawn0.step)⟩

/-! ### tag_Arith: function 40 (proved by hand) -/
def tag_Arith.f (a0 : Int) (a1_0 : Int) (a1_1 : Int) (a1_2 : Int) (a2_0 : Int) (a2_1 : Int) (a2_2 : Int) : Option (Int × Int × Int × Bool) :=
  if a0 = 4 then some (wrap64 (a1_0 + a2_0), 0, 0, true) else if a0 = 5 then some (wrap64 (a1_0 - a2_0), 0, 0, true) else if a0 = 6 then some (wrap64 (a1_0 * a2_0), 0, 0, true)
  else if a0 = 7 then (if a2_0 = 0 then some (0, 0, 0, false) else if a2_0 = -1 then some (wrap64 (-a1_0), 0, 0, true) else some (wrap64 (Int.tdiv a1_0 a2_0), 0, 0, true)) else some (0, 0, 0, false)
theorem tag_Arith.blk3 {w w1 : World} {n : Nat} {a b : Obj} {cs : Array Value} (hb : Below ((((w.alloc a).alloc b).alloc (.cells cs 25)).drewN n).heap.size ((((w.alloc a).alloc b).alloc (.cells cs 25)).drewN n) w1) : w1.heap[w.heap.size + 1 + 1]? = some (.cells cs 25 (0, 0)) := by
  refine (hb.block _ (by simp)).trans ?_
  have := blk_new ((w.alloc a).alloc b) (.cells cs 25)
  simpa using this
theorem tag_Arith.below3 {w w1 : World} {n : Nat} {a b c : Obj} (hb : Below ((((w.alloc a).alloc b).alloc c).drewN n).heap.size ((((w.alloc a).alloc b).alloc c).drewN n) w1) : Below w.heap.size w w1 :=
  below_step (pw_below_drewN (below_alloc (below_alloc (below_alloc (Below.refl _ _) _) _) _) _) hb
set_option maxHeartbeats 8000000 in
set_option maxRecDepth 100000 in
theorem tag_Arith.add (a1_0 : Int) (a1_1 : Int) (a1_2 : Int) (a2_0 : Int) (a2_1 : Int) (a2_2 : Int) (w : World) :
    Calls Try.prog 40 #[.int .i64 4, .agg #[.int .i64 a1_0, .int .i64 a1_1, .int .i64 a1_2], .agg #[.int .i64 a2_0, .int .i64 a2_1, .int .i64 a2_2]] w fun e w' => e = .returned (.tuple #[.agg #[.int .i64 (wrap64 (a1_0 + a2_0)), .int .i64 0, .int .i64 0], .bool true]) ∧ Below w.heap.size w w' := by
  have hu := Try.underlying25
  go_enter Try.func40, Try.ntmps40
  go_wp2_with (first | (go_at_call 54; (with_reducible refine (num_Add.calls a1_0 a2_0 _ _ rfl).mono ?_); rintro e w' ⟨rfl, ⟨nd, rfl⟩⟩) | (go_at_call 38; (with_reducible refine (tag_Plain.calls (wrap64 (a1_0 + a2_0)) _ _ _ _ rfl).mono ?_); rintro e w1 ⟨rfl, hb⟩; have HQ := Aside0.mk (tag_Arith.blk3 hb); have HL := Aside0.mk (tag_Arith.below3 hb); clear hb; have s0 := blk_cell HQ.out 0; have s1 := blk_cell HQ.out 1; have s2 := blk_cell HQ.out 2; have t0 := blk_frozen HQ.out 0; have t1 := blk_frozen HQ.out 1; have t2 := blk_frozen HQ.out 2; simp only [List.getElem?_toArray, List.getElem?_cons_zero, List.getElem?_cons_succ] at s0 s1 s2))
  refine bodyPost_ret (results_ct rfl _ _ (w.heap.size + 1 + 1) 25 #[.int .i64 (wrap64 (a1_0 + a2_0)), .int .i64 0, .int .i64 0] (0, 0) _ rfl (by have := HQ.out; exact blk_set (blk_set (blk_set this 0 _) 1 _) 2 _) Try.underlying25 rfl (by kernel_rfl)) rfl ?_
  exact ⟨rfl, below_far (below_far (below_far HL.out (by simp; omega) _) (by simp; omega) _) (by simp; omega) _⟩
set_option maxHeartbeats 8000000 in
set_option maxRecDepth 100000 in
theorem tag_Arith.sub (a1_0 : Int) (a1_1 : Int) (a1_2 : Int) (a2_0 : Int) (a2_1 : Int) (a2_2 : Int) (w : World) :
    Calls Try.prog 40 #[.int .i64 5, .agg #[.int .i64 a1_0, .int .i64 a1_1, .int .i64 a1_2], .agg #[.int .i64 a2_0, .int .i64 a2_1, .int .i64 a2_2]] w fun e w' => e = .returned (.tuple #[.agg #[.int .i64 (wrap64 (a1_0 - a2_0)), .int .i64 0, .int .i64 0], .bool true]) ∧ Below w.heap.size w w' := by
  have hu := Try.underlying25
  go_enter Try.func40, Try.ntmps40
  go_wp2_with (first | (go_at_call 55; (with_reducible refine (num_Sub.calls a1_0 a2_0 _ _ rfl).mono ?_); rintro e w' ⟨rfl, ⟨nd, rfl⟩⟩) | (go_at_call 38; (with_reducible refine (tag_Plain.calls (wrap64 (a1_0 - a2_0)) _ _ _ _ rfl).mono ?_); rintro e w1 ⟨rfl, hb⟩; have HQ := Aside0.mk (tag_Arith.blk3 hb); have HL := Aside0.mk (tag_Arith.below3 hb); clear hb; have s0 := blk_cell HQ.out 0; have s1 := blk_cell HQ.out 1; have s2 := blk_cell HQ.out 2; have t0 := blk_frozen HQ.out 0; have t1 := blk_frozen HQ.out 1; have t2 := blk_frozen HQ.out 2; simp only [List.getElem?_toArray, List.getElem?_cons_zero, List.getElem?_cons_succ] at s0 s1 s2))
  refine bodyPost_ret (results_ct rfl _ _ (w.heap.size + 1 + 1) 25 #[.int .i64 (wrap64 (a1_0 - a2_0)), .int .i64 0, .int .i64 0] (0, 0) _ rfl (by have := HQ.out; exact blk_set (blk_set (blk_set this 0 _) 1 _) 2 _) Try.underlying25 rfl (by kernel_rfl)) rfl ?_
  exact ⟨rfl, below_far (below_far (below_far HL.out (by simp; omega) _) (by simp; omega) _) (by simp; omega) _⟩
set_option maxHeartbeats 8000000 in
set_option maxRecDepth 100000 in
theorem tag_Arith.mul (a1_0 : Int) (a1_1 : Int) (a1_2 : Int) (a2_0 : Int) (a2_1 : Int) (a2_2 : Int) (w : World) :
    Calls Try.prog 40 #[.int .i64 6, .agg #[.int .i64 a1_0, .int .i64 a1_1, .int .i64 a1_2], .agg #[.int .i64 a2_0, .int .i64 a2_1, .int .i64 a2_2]] w fun e w' => e = .returned (.tuple #[.agg #[.int .i64 (wrap64 (a1_0 * a2_0)), .int .i64 0, .int .i64 0], .bool true]) ∧ Below w.heap.size w w' := by
  have hu := Try.underlying25
  go_enter Try.func40, Try.ntmps40
  go_wp2_with (first | (go_at_call 56; (with_reducible refine (num_Mul.calls a1_0 a2_0 _ _ rfl).mono ?_); rintro e w' ⟨rfl, ⟨nd, rfl⟩⟩) | (go_at_call 38; (with_reducible refine (tag_Plain.calls (wrap64 (a1_0 * a2_0)) _ _ _ _ rfl).mono ?_); rintro e w1 ⟨rfl, hb⟩; have HQ := Aside0.mk (tag_Arith.blk3 hb); have HL := Aside0.mk (tag_Arith.below3 hb); clear hb; have s0 := blk_cell HQ.out 0; have s1 := blk_cell HQ.out 1; have s2 := blk_cell HQ.out 2; have t0 := blk_frozen HQ.out 0; have t1 := blk_frozen HQ.out 1; have t2 := blk_frozen HQ.out 2; simp only [List.getElem?_toArray, List.getElem?_cons_zero, List.getElem?_cons_succ] at s0 s1 s2))
  refine bodyPost_ret (results_ct rfl _ _ (w.heap.size + 1 + 1) 25 #[.int .i64 (wrap64 (a1_0 * a2_0)), .int .i64 0, .int .i64 0] (0, 0) _ rfl (by have := HQ.out; exact blk_set (blk_set (blk_set this 0 _) 1 _) 2 _) Try.underlying25 rfl (by kernel_rfl)) rfl ?_
  exact ⟨rfl, below_far (below_far (below_far HL.out (by simp; omega) _) (by simp; omega) _) (by simp; omega) _⟩
set_option maxHeartbeats 8000000 in
set_option maxRecDepth 100000 in
theorem tag_Arith.div (a1_0 : Int) (a1_1 : Int) (a1_2 : Int) (a2_0 : Int) (a2_1 : Int) (a2_2 : Int) (q : Int) (b : Bool) (hq0 : num_Div.f a1_0 a2_0 = some (q, b)) (w : World) :
    Calls Try.prog 40 #[.int .i64 7, .agg #[.int .i64 a1_0, .int .i64 a1_1, .int .i64 a1_2], .agg #[.int .i64 a2_0, .int .i64 a2_1, .int .i64 a2_2]] w fun e w' => e = .returned (.tuple #[.agg #[.int .i64 q, .int .i64 0, .int .i64 0], .bool b]) ∧ Below w.heap.size w w' := by
  have hu := Try.underlying25
  have HD := Aside0.mk hq0
  clear hq0
  go_enter Try.func40, Try.ntmps40
  go_wp2_with (first | (go_at_call 57; (with_reducible refine (num_Div.calls a1_0 a2_0 q b _ HD.out).mono ?_); rintro e w' ⟨rfl, ⟨nd, rfl⟩⟩) | (go_at_call 38; (with_reducible refine (tag_Plain.calls q _ _ _ _ rfl).mono ?_); rintro e w1 ⟨rfl, hb⟩; have HQ := Aside0.mk (tag_Arith.blk3 hb); have HL := Aside0.mk (tag_Arith.below3 hb); clear hb; have s0 := blk_cell HQ.out 0; have s1 := blk_cell HQ.out 1; have s2 := blk_cell HQ.out 2; have t0 := blk_frozen HQ.out 0; have t1 := blk_frozen HQ.out 1; have t2 := blk_frozen HQ.out 2; simp only [List.getElem?_toArray, List.getElem?_cons_zero, List.getElem?_cons_succ] at s0 s1 s2))
  refine bodyPost_ret (results_ct rfl _ _ (w.heap.size + 1 + 1) 25 #[.int .i64 q, .int .i64 0, .int .i64 0] (0, 0) _ rfl (by have := HQ.out; exact blk_set (blk_set (blk_set this 0 _) 1 _) 2 _) Try.underlying25 rfl (by kernel_rfl)) rfl ?_
  exact ⟨rfl, below_far (below_far (below_far HL.out (by simp; omega) _) (by simp; omega) _) (by simp; omega) _⟩
set_option maxHeartbeats 8000000 in
set_option maxRecDepth 100000 in
theorem tag_Arith.else_ (a0 : Int) (a1_0 : Int) (a1_1 : Int) (a1_2 : Int) (a2_0 : Int) (a2_1 : Int) (a2_2 : Int) (w : World) (h4 : (a0 == 4) = false) (h5 : (a0 == 5) = false) (h6 : (a0 == 6) = false) (h7 : (a0 == 7) = false) :
    Calls Try.prog 40 #[.int .i64 a0, .agg #[.int .i64 a1_0, .int .i64 a1_1, .int .i64 a1_2], .agg #[.int .i64 a2_0, .int .i64 a2_1, .int .i64 a2_2]] w fun e w' => e = .returned (.tuple #[.agg #[.int .i64 0, .int .i64 0, .int .i64 0], .bool false]) ∧ Below w.heap.size w w' := by
  have hu := Try.underlying25
  go_enter Try.func40, Try.ntmps40
  go_wp2
  refine bodyPost_ret (results_ct rfl _ _ (w.heap.size + 1 + 1) 25 #[.int .i64 0, .int .i64 0, .int .i64 0] (0, 0) _ rfl (by simpa using blk_new ((w.alloc _).alloc _) _) Try.underlying25 rfl (by kernel_rfl)) rfl ?_
  exact ⟨rfl, below_alloc (below_alloc (below_alloc (Below.refl _ _) _) _) _⟩
theorem tag_Arith.calls (a0 : Int) (a1_0 : Int) (a1_1 : Int) (a1_2 : Int) (a2_0 : Int) (a2_1 : Int) (a2_2 : Int) (r1 : Int) (r2 : Int) (r3 : Int) (r4 : Bool) (w : World) (h : tag_Arith.f a0 a1_0 a1_1 a1_2 a2_0 a2_1 a2_2 = some (r1, r2, r3, r4)) :
    Calls Try.prog 40 #[.int .i64 a0, .agg #[.int .i64 a1_0, .int .i64 a1_1, .int .i64 a1_2], .agg #[.int .i64 a2_0, .int .i64 a2_1, .int .i64 a2_2]] w fun e w' => e = .returned (.tuple #[.agg #[.int .i64 r1, .int .i64 r2, .int .i64 r3], .bool r4]) ∧ Below w.heap.size w w' := by
  unfold tag_Arith.f at h
  by_cases h4 : a0 = 4
  · rw [if_pos h4] at h
    simp only [Option.some.injEq, Prod.mk.injEq] at h
    obtain ⟨rfl, rfl, rfl, rfl⟩ := h
    subst h4
    exact tag_Arith.add _ _ _ _ _ _ w
  rw [if_neg h4] at h
  by_cases h5 : a0 = 5
  · rw [if_pos h5] at h
    simp only [Option.some.injEq, Prod.mk.injEq] at h
    obtain ⟨rfl, rfl, rfl, rfl⟩ := h
    subst h5
    exact tag_Arith.sub _ _ _ _ _ _ w
  rw [if_neg h5] at h
  by_cases h6 : a0 = 6
  · rw [if_pos h6] at h
    simp only [Option.some.injEq, Prod.mk.injEq] at h
    obtain ⟨rfl, rfl, rfl, rfl⟩ := h
    subst h6
    exact tag_Arith.mul _ _ _ _ _ _ w
  rw [if_neg h6] at h
  by_cases h7 : a0 = 7
  · rw [if_pos h7] at h
    subst h7
    by_cases hz : a2_0 = 0
    · rw [if_pos hz] at h
      simp only [Option.some.injEq, Prod.mk.injEq] at h
      obtain ⟨rfl, rfl, rfl, rfl⟩ := h
      exact tag_Arith.div _ _ _ _ _ _ 0 false (by unfold num_Div.f; rw [if_pos hz]) w
    rw [if_neg hz] at h
    by_cases hn : a2_0 = -1
    · rw [if_pos hn] at h
      simp only [Option.some.injEq, Prod.mk.injEq] at h
      obtain ⟨rfl, rfl, rfl, rfl⟩ := h
      exact tag_Arith.div _ _ _ _ _ _ _ true (by unfold num_Div.f; rw [if_neg hz, if_pos hn]) w
    rw [if_neg hn] at h
    simp only [Option.some.injEq, Prod.mk.injEq] at h
    obtain ⟨rfl, rfl, rfl, rfl⟩ := h
    exact tag_Arith.div _ _ _ _ _ _ _ true (by unfold num_Div.f; rw [if_neg hz, if_neg hn]) w
  rw [if_neg h7] at h
  simp only [Option.some.injEq, Prod.mk.injEq] at h
  obtain ⟨rfl, rfl, rfl, rfl⟩ := h
  exact tag_Arith.else_ a0 _ _ _ _ _ _ w (by simpa using h4) (by simpa using h5) (by simpa using h6) (by simpa using h7)

-- NOT PRINTED: function 21 (thread_Local)

-- NOT PRINTED: function 25 (thread_Done)

-- NOT PRINTED: function 9 (warrenerlaw25_alive)

-- NOT PRINTED: function 10 (warrenerlaw24_Few)


/-! ### warrenerplain_Nums: function 31 -/
def warrenerplain_Nums.l0 : Nat → List Int → List Int → Int → Option (Bool)
  | 0, _, _, _ => none
  | k + 1, x0, x1, x5 => if x5 < (x0.length : Int) then (if 0 ≤ x5 then (if x5 < (x1.length : Int) then (if (rd x0 x5) = (rd x1 x5) then (warrenerplain_Nums.l0 k x0 x1 (wrap64 (x5 + 1))) else (some false)) else (none)) else (none)) else (some true)
def warrenerplain_Nums.f (k : Nat) (l0 : List Int) (l1 : List Int) : Option (Bool) := if (l0.length : Int) = (l1.length : Int) then (warrenerplain_Nums.l0 k l0 l1 0) else (some false)
theorem warrenerplain_Nums.mono_l : ∀ k, (∀ y0 y1 y2, LeO (warrenerplain_Nums.l0 k y0 y1 y2) (warrenerplain_Nums.l0 (k + 1) y0 y1 y2))
  | 0 => fun _ _ _ r h => by simp [warrenerplain_Nums.l0] at h
  | k + 1 => by
    have ih0 := warrenerplain_Nums.mono_l k
    · intro y0 y1 y2
      unfold warrenerplain_Nums.l0
      repeat' first
      | (with_reducible exact ih0 _ _ _)
      | (with_reducible exact LeO.refl _)
      | (with_reducible exact LeO.none _)
      | (with_reducible refine LeO.ite ?_ ?_)
      | (with_reducible refine LeO.bind ?_ (fun _ => ?_))
      | exact ih0 _ _ _
      | exact LeO.none _
      | refine LeO.ite ?_ ?_
      | refine LeO.bind ?_ (fun _ => ?_)
theorem warrenerplain_Nums.mono : ∀ a0 a1 k, LeO (warrenerplain_Nums.f k a0 a1) (warrenerplain_Nums.f (k + 1) a0 a1) := by
  intro a0 a1 k
  have ih0 := warrenerplain_Nums.mono_l k
  unfold warrenerplain_Nums.f
  repeat' first
      | (with_reducible exact ih0 _ _ _)
      | (with_reducible exact LeO.refl _)
      | (with_reducible exact LeO.none _)
      | (with_reducible refine LeO.ite ?_ ?_)
      | (with_reducible refine LeO.bind ?_ (fun _ => ?_))
      | exact ih0 _ _ _
      | exact LeO.none _
      | refine LeO.ite ?_ ?_
      | refine LeO.bind ?_ (fun _ => ?_)
set_option maxHeartbeats 8000000 in
set_option maxRecDepth 100000 in
theorem warrenerplain_Nums.calls (k : Nat) (A0 : Option Addr) (c0 : Nat) (l0 : List Int) (A1 : Option Addr) (c1 : Nat) (l1 : List Int) (r : Bool) (w : World) (hr0 : Kd.C (Kd.int .i64) w A0 l0.length l0) (hc0 : l0.length ≤ c0) (hr1 : Kd.C (Kd.int .i64) w A1 l1.length l1) (hc1 : l1.length ≤ c1) (h : warrenerplain_Nums.f k l0 l1 = some r) :
    Calls Try.prog 31 #[.slice A0 l0.length c0, .slice A1 l1.length c1] w fun e w' => e = .returned (.bool r) ∧ Drawn0 w w' := by
  have HR0 := Aside0.mk hr0
  have HC0 := Aside0.mk hc0
  clear hr0 hc0
  have HR1 := Aside0.mk hr1
  have HC1 := Aside0.mk hc1
  clear hr1 hc1
  have H : (if (l0.length : Int) = (l1.length : Int) then (warrenerplain_Nums.l0 k l0 l1 0) else (some false)) = some r := h
  clear h
  by_cases c3 : (l0.length : Int) = (l1.length : Int)
  · rw [if_pos c3] at H
    have c3b0 : ((l0.length : Int) == (l1.length : Int)) = true := beq_iff_eq.mpr c3
    have c3b1 : ((l0.length : Int) != (l1.length : Int)) = false := bne_eq_false_iff_eq.mpr c3
    have c3b2 : (l0.length == l1.length) = true := by first | simpa using c3 | (simp at c3 ⊢; omega)
    clear c3
    have H' := Aside0.mk H
    clear H
    go_enter Try.func31, Try.ntmps31
    go_wp2
    repeat (go_quiet (fail); try go_wp2)
    go_loopg [5] k (fun kq v5 w' => ∃ (x5_1 : Int), v5 = .int .i64 x5_1 ∧ Aside0 (warrenerplain_Nums.l0 kq l0 l1 x5_1 = some r) ∧ Aside0 (kq ≤ k) ∧ Drawn0 w w')
    case atStart => exact ⟨(0), (by first | rfl | (simp; done) | (simp [*]; done)), H', ⟨Nat.le_refl _⟩, by repeat (first | exact Drawn0.refl _ | apply Drawn0.step)⟩
    case round =>
      clear H'
      try clear c1
      try clear p2
      try clear c3
      try clear c3b0
      try clear c3b1
      try clear c3b2
      obtain ⟨x5_1, rfl, HA, HK1, ⟨m1, rfl⟩⟩ := hrel
      cases gk with
      | zero => exact absurd HA.out (by simp [warrenerplain_Nums.l0])
      | succ k1 =>
        have H := HA.out
        clear HA
        simp only [warrenerplain_Nums.l0] at H
        by_cases c4 : x5_1 < (l0.length : Int)
        · rw [if_pos c4] at H
          have c4b0 : decide (x5_1 < (l0.length : Int)) = true := decide_eq_true c4
          clear c4
          by_cases c5 : 0 ≤ x5_1
          · rw [if_pos c5] at H
            have c5b0 : decide (0 ≤ x5_1) = true := decide_eq_true c5
            clear c5
            by_cases c6 : x5_1 < (l1.length : Int)
            · rw [if_pos c6] at H
              have c6b0 : decide (x5_1 < (l1.length : Int)) = true := decide_eq_true c6
              clear c6
              by_cases c7 : (rd l0 x5_1) = (rd l1 x5_1)
              · rw [if_pos c7] at H
                have c7b0 : ((rd l0 x5_1) == (rd l1 x5_1)) = true := beq_iff_eq.mpr c7
                have c7b1 : ((rd l0 x5_1) != (rd l1 x5_1)) = false := bne_eq_false_iff_eq.mpr c7
                clear c7
                have H' := Aside0.mk H
                clear H
                have p106 : 0 ≤ (x5_1 : Int) := of_decide_eq_true (by first | (with_reducible assumption) | assumption)
                have q106 : x5_1 < (l0.length : Int) := of_decide_eq_true (by first | (with_reducible assumption) | assumption)
                obtain ⟨ad106, e106, hx106_0⟩ := Kd.at_int HR0.out x5_1 p106 q106
                cases e106
                replace p106 := eq_true p106
                replace q106 := eq_true q106
                have p107 : 0 ≤ (x5_1 : Int) := of_decide_eq_true (by first | (with_reducible assumption) | assumption)
                have q107 : x5_1 < (l1.length : Int) := of_decide_eq_true (by first | (with_reducible assumption) | assumption)
                obtain ⟨ad107, e107, hx107_0⟩ := Kd.at_int HR1.out x5_1 p107 q107
                cases e107
                replace p107 := eq_true p107
                replace q107 := eq_true q107
                go_wp2
                repeat (go_quiet (fail); try go_wp2)
                go_roundg k1
                case measure => have := HK1.out; omega
                case rel => exact ⟨(wrap64 (x5_1 + 1)), (by first | rfl | (simp; done) | (simp [*]; done)), H', ⟨by have := HK1.out; omega⟩, by repeat (first | exact Drawn0.refl _ | apply Drawn0.step)⟩
              · rw [if_neg c7] at H
                have c7b0 : ((rd l0 x5_1) == (rd l1 x5_1)) = false := beq_eq_false_iff_ne.mpr c7
                have c7b1 : ((rd l0 x5_1) != (rd l1 x5_1)) = true := bne_iff_ne.mpr c7
                obtain rfl := Option.some.inj H
                have p106 : 0 ≤ (x5_1 : Int) := of_decide_eq_true (by first | (with_reducible assumption) | assumption)
                have q106 : x5_1 < (l0.length : Int) := of_decide_eq_true (by first | (with_reducible assumption) | assumption)
                obtain ⟨ad106, e106, hx106_0⟩ := Kd.at_int HR0.out x5_1 p106 q106
                cases e106
                replace p106 := eq_true p106
                replace q106 := eq_true q106
                have p107 : 0 ≤ (x5_1 : Int) := of_decide_eq_true (by first | (with_reducible assumption) | assumption)
                have q107 : x5_1 < (l1.length : Int) := of_decide_eq_true (by first | (with_reducible assumption) | assumption)
                obtain ⟨ad107, e107, hx107_0⟩ := Kd.at_int HR1.out x5_1 p107 q107
                cases e107
                replace p107 := eq_true p107
                replace q107 := eq_true q107
                go_wp2
                repeat (go_quiet (fail); try go_wp2)
                go_ret
                exact ⟨by first | rfl | (simp; done) | (simp [*]; done), by repeat (first | exact Drawn0.refl _ | apply Drawn0.step)⟩
            · rw [if_neg c6] at H
              exact absurd H (by simp)
          · rw [if_neg c5] at H
            exact absurd H (by simp)
        · rw [if_neg c4] at H
          have c4b0 : decide (x5_1 < (l0.length : Int)) = false := decide_eq_false c4
          clear c4
          obtain rfl := Option.some.inj H
          go_wp2
          repeat (go_quiet (fail); try go_wp2)
          go_ret
          exact ⟨by first | rfl | (simp; done) | (simp [*]; done), by repeat (first | exact Drawn0.refl _ | apply Drawn0.step)⟩
  · rw [if_neg c3] at H
    have c3b0 : ((l0.length : Int) == (l1.length : Int)) = false := beq_eq_false_iff_ne.mpr c3
    have c3b1 : ((l0.length : Int) != (l1.length : Int)) = true := bne_iff_ne.mpr c3
    have c3b2 : (l0.length == l1.length) = false := by first | simpa using c3 | (simp at c3 ⊢; omega)
    obtain rfl := Option.some.inj H
    go_enter Try.func31, Try.ntmps31
    go_wp2
    repeat (go_quiet (fail); try go_wp2)
    go_ret
    exact ⟨by first | rfl | (simp; done) | (simp [*]; done), by repeat (first | exact Drawn0.refl _ | apply Drawn0.step)⟩

/-! ### warrenerplain_Micro: function 30 -/
def warrenerplain_Micro.f (k : Nat) (a0_0 : Int) (a0_1 : Int) (a0_2 : Int) (l0_3 : List Int) (a1_0 : Int) (a1_1 : Int) (a1_2 : Int) (l1_3 : List Int) : Option (Bool) := if a0_0 = a1_0 then (if a0_1 = a1_1 then (if a0_2 = a1_2 then ((warrenerplain_Nums.f k l0_3 l1_3).bind fun t110 => (some t110)) else (some false)) else (some false)) else (some false)
theorem warrenerplain_Micro.mono : ∀ a0 a1 a2 a3 a4 a5 a6 a7 k, LeO (warrenerplain_Micro.f k a0 a1 a2 a3 a4 a5 a6 a7) (warrenerplain_Micro.f (k + 1) a0 a1 a2 a3 a4 a5 a6 a7) := by
  intro a0 a1 a2 a3 a4 a5 a6 a7 k
  unfold warrenerplain_Micro.f
  repeat' first
      | (with_reducible exact warrenerplain_Nums.mono _ _ _)
      | (with_reducible exact LeO.refl _)
      | (with_reducible exact LeO.none _)
      | (with_reducible refine LeO.ite ?_ ?_)
      | (with_reducible refine LeO.bind ?_ (fun _ => ?_))
      | exact warrenerplain_Nums.mono _ _ _
      | exact LeO.none _
      | refine LeO.ite ?_ ?_
      | refine LeO.bind ?_ (fun _ => ?_)
set_option maxHeartbeats 8000000 in
set_option maxRecDepth 100000 in
theorem warrenerplain_Micro.calls (k : Nat) (a0_0 : Int) (a0_1 : Int) (a0_2 : Int) (A0_3 : Option Addr) (c0_3 : Nat) (l0_3 : List Int) (a1_0 : Int) (a1_1 : Int) (a1_2 : Int) (A1_3 : Option Addr) (c1_3 : Nat) (l1_3 : List Int) (r : Bool) (w : World) (hr0_3 : Kd.C (Kd.int .i64) w A0_3 l0_3.length l0_3) (hc0_3 : l0_3.length ≤ c0_3) (hr1_3 : Kd.C (Kd.int .i64) w A1_3 l1_3.length l1_3) (hc1_3 : l1_3.length ≤ c1_3) (h : warrenerplain_Micro.f k a0_0 a0_1 a0_2 l0_3 a1_0 a1_1 a1_2 l1_3 = some r) :
    Calls Try.prog 30 #[.agg #[.int .i64 a0_0, .int .i64 a0_1, .int .i64 a0_2, .slice A0_3 l0_3.length c0_3], .agg #[.int .i64 a1_0, .int .i64 a1_1, .int .i64 a1_2, .slice A1_3 l1_3.length c1_3]] w fun e w' => e = .returned (.bool r) ∧ Below w.heap.size w w' := by
  have hu29 := Try.underlying29
  have HR0_3 := Aside0.mk hr0_3
  have HC0_3 := Aside0.mk hc0_3
  clear hr0_3 hc0_3
  have HR1_3 := Aside0.mk hr1_3
  have HC1_3 := Aside0.mk hc1_3
  clear hr1_3 hc1_3
  have HB := Aside0.mk (Below.refl w.heap.size w)
  have H : (if a0_0 = a1_0 then (if a0_1 = a1_1 then (if a0_2 = a1_2 then ((warrenerplain_Nums.f k l0_3 l1_3).bind fun t110 => (some t110)) else (some false)) else (some false)) else (some false)) = some r := h
  clear h
  by_cases c3 : a0_0 = a1_0
  · rw [if_pos c3] at H
    have c3b0 : (a0_0 == a1_0) = true := beq_iff_eq.mpr c3
    have c3b1 : (a0_0 != a1_0) = false := bne_eq_false_iff_eq.mpr c3
    clear c3
    by_cases c4 : a0_1 = a1_1
    · rw [if_pos c4] at H
      have c4b0 : (a0_1 == a1_1) = true := beq_iff_eq.mpr c4
      have c4b1 : (a0_1 != a1_1) = false := bne_eq_false_iff_eq.mpr c4
      clear c4
      by_cases c5 : a0_2 = a1_2
      · rw [if_pos c5] at H
        have c5b0 : (a0_2 == a1_2) = true := beq_iff_eq.mpr c5
        have c5b1 : (a0_2 != a1_2) = false := bne_eq_false_iff_eq.mpr c5
        clear c5
        replace H := Option.bind_eq_some_iff.mp H
        obtain ⟨t110, A60, H⟩ := H
        replace H : (some t110) = some r := H
        have A6 := Aside0.mk A60
        clear A60
        obtain rfl := Option.some.inj H
        go_enter Try.func30, Try.ntmps30
        go_wp2_with (first | ((with_reducible refine gate_dst (N := 2) rfl ?_); refine box_event ?hg (N := 2) ?hd (cs := #[.int .i64 a0_0, .int .i64 a0_1, .int .i64 a0_2, .slice A0_3 l0_3.length c0_3]) (t := 29) ?hr ?_; (case hd => rfl); (case hg => rfl); (case hr => first | (go_simp; done) | (go_simp; rfl)); intro gb108 hg w7 hbox hb; have n0_ := Aside0.mk (below_step (by repeat (first | (with_reducible first | exact HB.out | apply below_alloc | apply pw_below_drewN | apply below_drew1) | exact HB.out)) hb); have n1_ := Aside0.mk (hbox); have n2_ := Aside0.mk ((by rw [hg]; exact (below_size (by repeat (first | (with_reducible first | exact HB.out | apply below_alloc | apply pw_below_drewN | apply below_drew1) | exact HB.out))) : w.heap.size ≤ gb108)); have n3_ := Aside0.mk ((by rw [hg]; exact (below_size (by repeat (first | (with_reducible first | exact HB.out | apply below_alloc | apply pw_below_drewN | apply below_drew1) | exact HB.out))) : w.heap.size ≤ gb108)); clear HB; have HB := n0_; have BK108 := n1_; have GW108 := n2_; have GE108 := n3_; clear n0_ n1_ n2_ n3_; clear hb hbox hg) | ((with_reducible refine gate_dst (N := 3) rfl ?_); refine box_event ?hg (N := 3) ?hd (cs := #[.int .i64 a1_0, .int .i64 a1_1, .int .i64 a1_2, .slice A1_3 l1_3.length c1_3]) (t := 29) ?hr ?_; (case hd => rfl); (case hg => rfl); (case hr => first | (go_simp; done) | (go_simp; rfl)); intro gb109 hg w8 hbox hb; have n0_ := Aside0.mk (blk_below (g := gb108) (o := .cells #[.int .i64 a0_0, .int .i64 a0_1, .int .i64 a0_2, .slice A0_3 l0_3.length c0_3] 29 (0, 0)) (by (with_reducible repeat (first | refine blk_drewN ?_ _ | refine blk_drew ?_ | refine blk_alloc ?_ _)); exact BK108.out) hb); have n1_ := Aside0.mk (below_step (by repeat (first | (with_reducible first | exact HB.out | apply below_alloc | apply pw_below_drewN | apply below_drew1 | refine below_set ?_ GE108.out) | exact HB.out)) hb); have n2_ := Aside0.mk (hbox); have n3_ := Aside0.mk ((by rw [hg]; exact (below_size (by repeat (first | (with_reducible first | exact HB.out | apply below_alloc | apply pw_below_drewN | apply below_drew1 | refine below_set ?_ GE108.out) | exact HB.out))) : w.heap.size ≤ gb109)); have n4_ := Aside0.mk ((by rw [hg]; exact (below_size (by repeat (first | (with_reducible first | exact HB.out | apply below_alloc | apply pw_below_drewN | apply below_drew1 | refine below_set ?_ GE108.out) | exact HB.out))) : w.heap.size ≤ gb109)); have n5_ := Aside0.mk ((by rw [hg]; exact Nat.ne_of_lt (blk_lt (g := gb108) (o := .cells #[.int .i64 a0_0, .int .i64 a0_1, .int .i64 a0_2, .slice A0_3 l0_3.length c0_3] 29 (0, 0)) (by (with_reducible repeat (first | refine blk_drewN ?_ _ | refine blk_drew ?_ | refine blk_alloc ?_ _)); exact BK108.out)) : gb108 ≠ gb109)); have n6_ := Aside0.mk ((by rw [hg]; exact Nat.ne_of_gt (blk_lt (g := gb108) (o := .cells #[.int .i64 a0_0, .int .i64 a0_1, .int .i64 a0_2, .slice A0_3 l0_3.length c0_3] 29 (0, 0)) (by (with_reducible repeat (first | refine blk_drewN ?_ _ | refine blk_drew ?_ | refine blk_alloc ?_ _)); exact BK108.out)) : gb109 ≠ gb108)); clear BK108; clear HB; have BK108 := n0_; have HB := n1_; have BK109 := n2_; have GW109 := n3_; have GE109 := n4_; have NB108_109 := n5_; have NB109_108 := n6_; clear n0_ n1_ n2_ n3_ n4_ n5_ n6_; clear hb hbox hg; have hnb9 := NB108_109.out; have hnc9 := NB109_108.out; have hcz10_0 : w8.cell? ⟨gb108, 0, none⟩ = some (.int .i64 a0_0) := (blk_cell BK108.out 0).trans rfl; have hcz10_1 : w8.cell? ⟨gb108, 1, none⟩ = some (.int .i64 a0_1) := (blk_cell BK108.out 1).trans rfl; have hcz10_2 : w8.cell? ⟨gb108, 2, none⟩ = some (.int .i64 a0_2) := (blk_cell BK108.out 2).trans rfl; have hcz10_3 : w8.cell? ⟨gb108, 3, none⟩ = some (.slice A0_3 l0_3.length c0_3) := (blk_cell BK108.out 3).trans rfl; have hfz10_0 := blk_frozen BK108.out 0; have hfz10_1 := blk_frozen BK108.out 1; have hfz10_2 := blk_frozen BK108.out 2; have hfz10_3 := blk_frozen BK108.out 3; have hcz11_0 : w8.cell? ⟨gb109, 0, none⟩ = some (.int .i64 a1_0) := (blk_cell BK109.out 0).trans rfl; have hcz11_1 : w8.cell? ⟨gb109, 1, none⟩ = some (.int .i64 a1_1) := (blk_cell BK109.out 1).trans rfl; have hcz11_2 : w8.cell? ⟨gb109, 2, none⟩ = some (.int .i64 a1_2) := (blk_cell BK109.out 2).trans rfl; have hcz11_3 : w8.cell? ⟨gb109, 3, none⟩ = some (.slice A1_3 l1_3.length c1_3) := (blk_cell BK109.out 3).trans rfl; have hfz11_0 := blk_frozen BK109.out 0; have hfz11_1 := blk_frozen BK109.out 1; have hfz11_2 := blk_frozen BK109.out 2; have hfz11_3 := blk_frozen BK109.out 3) | (go_at_call 31; (with_reducible refine (warrenerplain_Nums.calls k _ _ l0_3 _ _ l1_3 t110 _ ?side1 ?side2 ?side3 ?side4 A6.out).mono ?_); (case side1 => repeat (first | exact (Kd.C_below HR0_3.out HB.out) | (with_reducible refine Kd.C_alloc ?_ _) | (with_reducible refine Kd.C_drewN ?_ _) | (with_reducible refine Kd.C_drew ?_))); (case side2 => exact HC0_3.out); (case side3 => repeat (first | exact (Kd.C_below HR1_3.out HB.out) | (with_reducible refine Kd.C_alloc ?_ _) | (with_reducible refine Kd.C_drewN ?_ _) | (with_reducible refine Kd.C_drew ?_))); (case side4 => exact HC1_3.out); rintro e w' ⟨rfl, ⟨nd, rfl⟩⟩))
        go_ret
        exact ⟨by first | rfl | (simp [errW_none, errW_some] <;> rfl) | (simp [*, errW_none, errW_some] <;> rfl), by repeat (first | (with_reducible first | exact HB.out | apply below_alloc | apply pw_below_drewN | apply below_drew1 | refine below_set ?_ GE108.out | refine below_set ?_ GE109.out) | exact HB.out)⟩
      · rw [if_neg c5] at H
        have c5b0 : (a0_2 == a1_2) = false := beq_eq_false_iff_ne.mpr c5
        have c5b1 : (a0_2 != a1_2) = true := bne_iff_ne.mpr c5
        obtain rfl := Option.some.inj H
        go_enter Try.func30, Try.ntmps30
        go_wp2_with (first | ((with_reducible refine gate_dst (N := 2) rfl ?_); refine box_event ?hg (N := 2) ?hd (cs := #[.int .i64 a0_0, .int .i64 a0_1, .int .i64 a0_2, .slice A0_3 l0_3.length c0_3]) (t := 29) ?hr ?_; (case hd => rfl); (case hg => rfl); (case hr => first | (go_simp; done) | (go_simp; rfl)); intro gb108 hg w12 hbox hb; have n0_ := Aside0.mk (below_step (by repeat (first | (with_reducible first | exact HB.out | apply below_alloc | apply pw_below_drewN | apply below_drew1) | exact HB.out)) hb); have n1_ := Aside0.mk (hbox); have n2_ := Aside0.mk ((by rw [hg]; exact (below_size (by repeat (first | (with_reducible first | exact HB.out | apply below_alloc | apply pw_below_drewN | apply below_drew1) | exact HB.out))) : w.heap.size ≤ gb108)); have n3_ := Aside0.mk ((by rw [hg]; exact (below_size (by repeat (first | (with_reducible first | exact HB.out | apply below_alloc | apply pw_below_drewN | apply below_drew1) | exact HB.out))) : w.heap.size ≤ gb108)); clear HB; have HB := n0_; have BK108 := n1_; have GW108 := n2_; have GE108 := n3_; clear n0_ n1_ n2_ n3_; clear hb hbox hg) | ((with_reducible refine gate_dst (N := 3) rfl ?_); refine box_event ?hg (N := 3) ?hd (cs := #[.int .i64 a1_0, .int .i64 a1_1, .int .i64 a1_2, .slice A1_3 l1_3.length c1_3]) (t := 29) ?hr ?_; (case hd => rfl); (case hg => rfl); (case hr => first | (go_simp; done) | (go_simp; rfl)); intro gb109 hg w13 hbox hb; have n0_ := Aside0.mk (blk_below (g := gb108) (o := .cells #[.int .i64 a0_0, .int .i64 a0_1, .int .i64 a0_2, .slice A0_3 l0_3.length c0_3] 29 (0, 0)) (by (with_reducible repeat (first | refine blk_drewN ?_ _ | refine blk_drew ?_ | refine blk_alloc ?_ _)); exact BK108.out) hb); have n1_ := Aside0.mk (below_step (by repeat (first | (with_reducible first | exact HB.out | apply below_alloc | apply pw_below_drewN | apply below_drew1 | refine below_set ?_ GE108.out) | exact HB.out)) hb); have n2_ := Aside0.mk (hbox); have n3_ := Aside0.mk ((by rw [hg]; exact (below_size (by repeat (first | (with_reducible first | exact HB.out | apply below_alloc | apply pw_below_drewN | apply below_drew1 | refine below_set ?_ GE108.out) | exact HB.out))) : w.heap.size ≤ gb109)); have n4_ := Aside0.mk ((by rw [hg]; exact (below_size (by repeat (first | (with_reducible first | exact HB.out | apply below_alloc | apply pw_below_drewN | apply below_drew1 | refine below_set ?_ GE108.out) | exact HB.out))) : w.heap.size ≤ gb109)); have n5_ := Aside0.mk ((by rw [hg]; exact Nat.ne_of_lt (blk_lt (g := gb108) (o := .cells #[.int .i64 a0_0, .int .i64 a0_1, .int .i64 a0_2, .slice A0_3 l0_3.length c0_3] 29 (0, 0)) (by (with_reducible repeat (first | refine blk_drewN ?_ _ | refine blk_drew ?_ | refine blk_alloc ?_ _)); exact BK108.out)) : gb108 ≠ gb109)); have n6_ := Aside0.mk ((by rw [hg]; exact Nat.ne_of_gt (blk_lt (g := gb108) (o := .cells #[.int .i64 a0_0, .int .i64 a0_1, .int .i64 a0_2, .slice A0_3 l0_3.length c0_3] 29 (0, 0)) (by (with_reducible repeat (first | refine blk_drewN ?_ _ | refine blk_drew ?_ | refine blk_alloc ?_ _)); exact BK108.out)) : gb109 ≠ gb108)); clear BK108; clear HB; have BK108 := n0_; have HB := n1_; have BK109 := n2_; have GW109 := n3_; have GE109 := n4_; have NB108_109 := n5_; have NB109_108 := n6_; clear n0_ n1_ n2_ n3_ n4_ n5_ n6_; clear hb hbox hg; have hnb14 := NB108_109.out; have hnc14 := NB109_108.out; have hcz15_0 : w13.cell? ⟨gb108, 0, none⟩ = some (.int .i64 a0_0) := (blk_cell BK108.out 0).trans rfl; have hcz15_1 : w13.cell? ⟨gb108, 1, none⟩ = some (.int .i64 a0_1) := (blk_cell BK108.out 1).trans rfl; have hcz15_2 : w13.cell? ⟨gb108, 2, none⟩ = some (.int .i64 a0_2) := (blk_cell BK108.out 2).trans rfl; have hcz15_3 : w13.cell? ⟨gb108, 3, none⟩ = some (.slice A0_3 l0_3.length c0_3) := (blk_cell BK108.out 3).trans rfl; have hfz15_0 := blk_frozen BK108.out 0; have hfz15_1 := blk_frozen BK108.out 1; have hfz15_2 := blk_frozen BK108.out 2; have hfz15_3 := blk_frozen BK108.out 3; have hcz16_0 : w13.cell? ⟨gb109, 0, none⟩ = some (.int .i64 a1_0) := (blk_cell BK109.out 0).trans rfl; have hcz16_1 : w13.cell? ⟨gb109, 1, none⟩ = some (.int .i64 a1_1) := (blk_cell BK109.out 1).trans rfl; have hcz16_2 : w13.cell? ⟨gb109, 2, none⟩ = some (.int .i64 a1_2) := (blk_cell BK109.out 2).trans rfl; have hcz16_3 : w13.cell? ⟨gb109, 3, none⟩ = some (.slice A1_3 l1_3.length c1_3) := (blk_cell BK109.out 3).trans rfl; have hfz16_0 := blk_frozen BK109.out 0; have hfz16_1 := blk_frozen BK109.out 1; have hfz16_2 := blk_frozen BK109.out 2; have hfz16_3 := blk_frozen BK109.out 3))
        go_ret
        exact ⟨by first | rfl | (simp [errW_none, errW_some] <;> rfl) | (simp [*, errW_none, errW_some] <;> rfl), by repeat (first | (with_reducible first | exact HB.out | apply below_alloc | apply pw_below_drewN | apply below_drew1 | refine below_set ?_ GE108.out | refine below_set ?_ GE109.out) | exact HB.out)⟩
    · rw [if_neg c4] at H
      have c4b0 : (a0_1 == a1_1) = false := beq_eq_false_iff_ne.mpr c4
      have c4b1 : (a0_1 != a1_1) = true := bne_iff_ne.mpr c4
      obtain rfl := Option.some.inj H
      go_enter Try.func30, Try.ntmps30
      go_wp2_with (first | ((with_reducible refine gate_dst (N := 2) rfl ?_); refine box_event ?hg (N := 2) ?hd (cs := #[.int .i64 a0_0, .int .i64 a0_1, .int .i64 a0_2, .slice A0_3 l0_3.length c0_3]) (t := 29) ?hr ?_; (case hd => rfl); (case hg => rfl); (case hr => first | (go_simp; done) | (go_simp; rfl)); intro gb108 hg w17 hbox hb; have n0_ := Aside0.mk (below_step (by repeat (first | (with_reducible first | exact HB.out | apply below_alloc | apply pw_below_drewN | apply below_drew1) | exact HB.out)) hb); have n1_ := Aside0.mk (hbox); have n2_ := Aside0.mk ((by rw [hg]; exact (below_size (by repeat (first | (with_reducible first | exact HB.out | apply below_alloc | apply pw_below_drewN | apply below_drew1) | exact HB.out))) : w.heap.size ≤ gb108)); have n3_ := Aside0.mk ((by rw [hg]; exact (below_size (by repeat (first | (with_reducible first | exact HB.out | apply below_alloc | apply pw_below_drewN | apply below_drew1) | exact HB.out))) : w.heap.size ≤ gb108)); clear HB; have HB := n0_; have BK108 := n1_; have GW108 := n2_; have GE108 := n3_; clear n0_ n1_ n2_ n3_; clear hb hbox hg) | ((with_reducible refine gate_dst (N := 3) rfl ?_); refine box_event ?hg (N := 3) ?hd (cs := #[.int .i64 a1_0, .int .i64 a1_1, .int .i64 a1_2, .slice A1_3 l1_3.length c1_3]) (t := 29) ?hr ?_; (case hd => rfl); (case hg => rfl); (case hr => first | (go_simp; done) | (go_simp; rfl)); intro gb109 hg w18 hbox hb; have n0_ := Aside0.mk (blk_below (g := gb108) (o := .cells #[.int .i64 a0_0, .int .i64 a0_1, .int .i64 a0_2, .slice A0_3 l0_3.length c0_3] 29 (0, 0)) (by (with_reducible repeat (first | refine blk_drewN ?_ _ | refine blk_drew ?_ | refine blk_alloc ?_ _)); exact BK108.out) hb); have n1_ := Aside0.mk (below_step (by repeat (first | (with_reducible first | exact HB.out | apply below_alloc | apply pw_below_drewN | apply below_drew1 | refine below_set ?_ GE108.out) | exact HB.out)) hb); have n2_ := Aside0.mk (hbox); have n3_ := Aside0.mk ((by rw [hg]; exact (below_size (by repeat (first | (with_reducible first | exact HB.out | apply below_alloc | apply pw_below_drewN | apply below_drew1 | refine below_set ?_ GE108.out) | exact HB.out))) : w.heap.size ≤ gb109)); have n4_ := Aside0.mk ((by rw [hg]; exact (below_size (by repeat (first | (with_reducible first | exact HB.out | apply below_alloc | apply pw_below_drewN | apply below_drew1 | refine below_set ?_ GE108.out) | exact HB.out))) : w.heap.size ≤ gb109)); have n5_ := Aside0.mk ((by rw [hg]; exact Nat.ne_of_lt (blk_lt (g := gb108) (o := .cells #[.int .i64 a0_0, .int .i64 a0_1, .int .i64 a0_2, .slice A0_3 l0_3.length c0_3] 29 (0, 0)) (by (with_reducible repeat (first | refine blk_drewN ?_ _ | refine blk_drew ?_ | refine blk_alloc ?_ _)); exact BK108.out)) : gb108 ≠ gb109)); have n6_ := Aside0.mk ((by rw [hg]; exact Nat.ne_of_gt (blk_lt (g := gb108) (o := .cells #[.int .i64 a0_0, .int .i64 a0_1, .int .i64 a0_2, .slice A0_3 l0_3.length c0_3] 29 (0, 0)) (by (with_reducible repeat (first | refine blk_drewN ?_ _ | refine blk_drew ?_ | refine blk_alloc ?_ _)); exact BK108.out)) : gb109 ≠ gb108)); clear BK108; clear HB; have BK108 := n0_; have HB := n1_; have BK109 := n2_; have GW109 := n3_; have GE109 := n4_; have NB108_109 := n5_; have NB109_108 := n6_; clear n0_ n1_ n2_ n3_ n4_ n5_ n6_; clear hb hbox hg; have hnb19 := NB108_109.out; have hnc19 := NB109_108.out; have hcz20_0 : w18.cell? ⟨gb108, 0, none⟩ = some (.int .i64 a0_0) := (blk_cell BK108.out 0).trans rfl; have hcz20_1 : w18.cell? ⟨gb108, 1, none⟩ = some (.int .i64 a0_1) := (blk_cell BK108.out 1).trans rfl; have hcz20_2 : w18.cell? ⟨gb108, 2, none⟩ = some (.int .i64 a0_2) := (blk_cell BK108.out 2).trans rfl; have hcz20_3 : w18.cell? ⟨gb108, 3, none⟩ = some (.slice A0_3 l0_3.length c0_3) := (blk_cell BK108.out 3).trans rfl; have hfz20_0 := blk_frozen BK108.out 0; have hfz20_1 := blk_frozen BK108.out 1; have hfz20_2 := blk_frozen BK108.out 2; have hfz20_3 := blk_frozen BK108.out 3; have hcz21_0 : w18.cell? ⟨gb109, 0, none⟩ = some (.int .i64 a1_0) := (blk_cell BK109.out 0).trans rfl; have hcz21_1 : w18.cell? ⟨gb109, 1, none⟩ = some (.int .i64 a1_1) := (blk_cell BK109.out 1).trans rfl; have hcz21_2 : w18.cell? ⟨gb109, 2, none⟩ = some (.int .i64 a1_2) := (blk_cell BK109.out 2).trans rfl; have hcz21_3 : w18.cell? ⟨gb109, 3, none⟩ = some (.slice A1_3 l1_3.length c1_3) := (blk_cell BK109.out 3).trans rfl; have hfz21_0 := blk_frozen BK109.out 0; have hfz21_1 := blk_frozen BK109.out 1; have hfz21_2 := blk_frozen BK109.out 2; have hfz21_3 := blk_frozen BK109.out 3))
      go_ret
      exact ⟨by first | rfl | (simp [errW_none, errW_some] <;> rfl) | (simp [*, errW_none, errW_some] <;> rfl), by repeat (first | (with_reducible first | exact HB.out | apply below_alloc | apply pw_below_drewN | apply below_drew1 | refine below_set ?_ GE108.out | refine below_set ?_ GE109.out) | exact HB.out)⟩
  · rw [if_neg c3] at H
    have c3b0 : (a0_0 == a1_0) = false := beq_eq_false_iff_ne.mpr c3
    have c3b1 : (a0_0 != a1_0) = true := bne_iff_ne.mpr c3
    obtain rfl := Option.some.inj H
    go_enter Try.func30, Try.ntmps30
    go_wp2_with (first | ((with_reducible refine gate_dst (N := 2) rfl ?_); refine box_event ?hg (N := 2) ?hd (cs := #[.int .i64 a0_0, .int .i64 a0_1, .int .i64 a0_2, .slice A0_3 l0_3.length c0_3]) (t := 29) ?hr ?_; (case hd => rfl); (case hg => rfl); (case hr => first | (go_simp; done) | (go_simp; rfl)); intro gb108 hg w22 hbox hb; have n0_ := Aside0.mk (below_step (by repeat (first | (with_reducible first | exact HB.out | apply below_alloc | apply pw_below_drewN | apply below_drew1) | exact HB.out)) hb); have n1_ := Aside0.mk (hbox); have n2_ := Aside0.mk ((by rw [hg]; exact (below_size (by repeat (first | (with_reducible first | exact HB.out | apply below_alloc | apply pw_below_drewN | apply below_drew1) | exact HB.out))) : w.heap.size ≤ gb108)); have n3_ := Aside0.mk ((by rw [hg]; exact (below_size (by repeat (first | (with_reducible first | exact HB.out | apply below_alloc | apply pw_below_drewN | apply below_drew1) | exact HB.out))) : w.heap.size ≤ gb108)); clear HB; have HB := n0_; have BK108 := n1_; have GW108 := n2_; have GE108 := n3_; clear n0_ n1_ n2_ n3_; clear hb hbox hg) | ((with_reducible refine gate_dst (N := 3) rfl ?_); refine box_event ?hg (N := 3) ?hd (cs := #[.int .i64 a1_0, .int .i64 a1_1, .int .i64 a1_2, .slice A1_3 l1_3.length c1_3]) (t := 29) ?hr ?_; (case hd => rfl); (case hg => rfl); (case hr => first | (go_simp; done) | (go_simp; rfl)); intro gb109 hg w23 hbox hb; have n0_ := Aside0.mk (blk_below (g := gb108) (o := .cells #[.int .i64 a0_0, .int .i64 a0_1, .int .i64 a0_2, .slice A0_3 l0_3.length c0_3] 29 (0, 0)) (by (with_reducible repeat (first | refine blk_drewN ?_ _ | refine blk_drew ?_ | refine blk_alloc ?_ _)); exact BK108.out) hb); have n1_ := Aside0.mk (below_step (by repeat (first | (with_reducible first | exact HB.out | apply below_alloc | apply pw_below_drewN | apply below_drew1 | refine below_set ?_ GE108.out) | exact HB.out)) hb); have n2_ := Aside0.mk (hbox); have n3_ := Aside0.mk ((by rw [hg]; exact (below_size (by repeat (first | (with_reducible first | exact HB.out | apply below_alloc | apply pw_below_drewN | apply below_drew1 | refine below_set ?_ GE108.out) | exact HB.out))) : w.heap.size ≤ gb109)); have n4_ := Aside0.mk ((by rw [hg]; exact (below_size (by repeat (first | (with_reducible first | exact HB.out | apply below_alloc | apply pw_below_drewN | apply below_drew1 | refine below_set ?_ GE108.out) | exact HB.out))) : w.heap.size ≤ gb109)); have n5_ := Aside0.mk ((by rw [hg]; exact Nat.ne_of_lt (blk_lt (g := gb108) (o := .cells #[.int .i64 a0_0, .int .i64 a0_1, .int .i64 a0_2, .slice A0_3 l0_3.length c0_3] 29 (0, 0)) (by (with_reducible repeat (first | refine blk_drewN ?_ _ | refine blk_drew ?_ | refine blk_alloc ?_ _)); exact BK108.out)) : gb108 ≠ gb109)); have n6_ := Aside0.mk ((by rw [hg]; exact Nat.ne_of_gt (blk_lt (g := gb108) (o := .cells #[.int .i64 a0_0, .int .i64 a0_1, .int .i64 a0_2, .slice A0_3 l0_3.length c0_3] 29 (0, 0)) (by (with_reducible repeat (first | refine blk_drewN ?_ _ | refine blk_drew ?_ | refine blk_alloc ?_ _)); exact BK108.out)) : gb109 ≠ gb108)); clear BK108; clear HB; have BK108 := n0_; have HB := n1_; have BK109 := n2_; have GW109 := n3_; have GE109 := n4_; have NB108_109 := n5_; have NB109_108 := n6_; clear n0_ n1_ n2_ n3_ n4_ n5_ n6_; clear hb hbox hg; have hnb24 := NB108_109.out; have hnc24 := NB109_108.out; have hcz25_0 : w23.cell? ⟨gb108, 0, none⟩ = some (.int .i64 a0_0) := (blk_cell BK108.out 0).trans rfl; have hcz25_1 : w23.cell? ⟨gb108, 1, none⟩ = some (.int .i64 a0_1) := (blk_cell BK108.out 1).trans rfl; have hcz25_2 : w23.cell? ⟨gb108, 2, none⟩ = some (.int .i64 a0_2) := (blk_cell BK108.out 2).trans rfl; have hcz25_3 : w23.cell? ⟨gb108, 3, none⟩ = some (.slice A0_3 l0_3.length c0_3) := (blk_cell BK108.out 3).trans rfl; have hfz25_0 := blk_frozen BK108.out 0; have hfz25_1 := blk_frozen BK108.out 1; have hfz25_2 := blk_frozen BK108.out 2; have hfz25_3 := blk_frozen BK108.out 3; have hcz26_0 : w23.cell? ⟨gb109, 0, none⟩ = some (.int .i64 a1_0) := (blk_cell BK109.out 0).trans rfl; have hcz26_1 : w23.cell? ⟨gb109, 1, none⟩ = some (.int .i64 a1_1) := (blk_cell BK109.out 1).trans rfl; have hcz26_2 : w23.cell? ⟨gb109, 2, none⟩ = some (.int .i64 a1_2) := (blk_cell BK109.out 2).trans rfl; have hcz26_3 : w23.cell? ⟨gb109, 3, none⟩ = some (.slice A1_3 l1_3.length c1_3) := (blk_cell BK109.out 3).trans rfl; have hfz26_0 := blk_frozen BK109.out 0; have hfz26_1 := blk_frozen BK109.out 1; have hfz26_2 := blk_frozen BK109.out 2; have hfz26_3 := blk_frozen BK109.out 3))
    go_ret
    exact ⟨by first | rfl | (simp [errW_none, errW_some] <;> rfl) | (simp [*, errW_none, errW_some] <;> rfl), by repeat (first | (with_reducible first | exact HB.out | apply below_alloc | apply pw_below_drewN | apply below_drew1 | refine below_set ?_ GE108.out | refine below_set ?_ GE109.out) | exact HB.out)⟩

-- NOT PRINTED: function 12 (warrenerplain_Thread)

-- NOT PRINTED: function 11 (warrenerref24_Copy)

-- NOT PRINTED: function 18 (warrenerref25_Set)

-- NOT PRINTED: function 20 (warrenerref25_Get)

/-! ### warrenerref25_Arith: function 41 -/
def warrenerref25_Arith.f (a0 : Int) (a1 : Int) (a2 : Int) : Option (Int × Bool) := if a0 = 4 then (some (wrap64 (a1 + a2), true)) else (if a0 = 5 then (some (wrap64 (a1 - a2), true)) else (if a0 = 6 then (some (wrap64 (a1 * a2), true)) else (if a2 = 0 then (some (0, false)) else (if a2 = (-1) then (some (wrap64 (-a1), true)) else (some (wrap64 (Int.tdiv a1 a2), true))))))
set_option maxHeartbeats 8000000 in
set_option maxRecDepth 100000 in
theorem warrenerref25_Arith.calls (a0 : Int) (a1 : Int) (a2 : Int) (r1 : Int) (r2 : Bool) (w : World) (h : warrenerref25_Arith.f a0 a1 a2 = some (r1, r2)) :
    Calls Try.prog 41 #[.int .i64 a0, .int .i64 a1, .int .i64 a2] w fun e w' => e = .returned (.tuple #[.int .i64 r1, .bool r2]) ∧ Drawn0 w w' := by
  have H : (if a0 = 4 then (some (wrap64 (a1 + a2), true)) else (if a0 = 5 then (some (wrap64 (a1 - a2), true)) else (if a0 = 6 then (some (wrap64 (a1 * a2), true)) else (if a2 = 0 then (some (0, false)) else (if a2 = (-1) then (some (wrap64 (-a1), true)) else (some (wrap64 (Int.tdiv a1 a2), true))))))) = some (r1, r2) := h
  clear h
  by_cases c4 : a0 = 4
  · rw [if_pos c4] at H
    have c4b0 : (a0 == 4) = true := beq_iff_eq.mpr c4
    have c4b1 : (a0 != 4) = false := bne_eq_false_iff_eq.mpr c4
    clear c4
    simp only [Option.some.injEq, Prod.mk.injEq] at H
    obtain ⟨rfl, rfl⟩ := H
    go_enter Try.func41, Try.ntmps41
    go_wp2
    go_ret2
    exact ⟨by first | rfl | (simp; done) | (simp [*]; done), by repeat (first | exact Drawn0.refl _ | apply Drawn0.step)⟩
  · rw [if_neg c4] at H
    have c4b0 : (a0 == 4) = false := beq_eq_false_iff_ne.mpr c4
    have c4b1 : (a0 != 4) = true := bne_iff_ne.mpr c4
    by_cases c5 : a0 = 5
    · rw [if_pos c5] at H
      have c5b0 : (a0 == 5) = true := beq_iff_eq.mpr c5
      have c5b1 : (a0 != 5) = false := bne_eq_false_iff_eq.mpr c5
      clear c5
      simp only [Option.some.injEq, Prod.mk.injEq] at H
      obtain ⟨rfl, rfl⟩ := H
      go_enter Try.func41, Try.ntmps41
      go_wp2
      go_ret2
      exact ⟨by first | rfl | (simp; done) | (simp [*]; done), by repeat (first | exact Drawn0.refl _ | apply Drawn0.step)⟩
    · rw [if_neg c5] at H
      have c5b0 : (a0 == 5) = false := beq_eq_false_iff_ne.mpr c5
      have c5b1 : (a0 != 5) = true := bne_iff_ne.mpr c5
      by_cases c6 : a0 = 6
      · rw [if_pos c6] at H
        have c6b0 : (a0 == 6) = true := beq_iff_eq.mpr c6
        have c6b1 : (a0 != 6) = false := bne_eq_false_iff_eq.mpr c6
        clear c6
        simp only [Option.some.injEq, Prod.mk.injEq] at H
        obtain ⟨rfl, rfl⟩ := H
        go_enter Try.func41, Try.ntmps41
        go_wp2
        go_ret2
        exact ⟨by first | rfl | (simp; done) | (simp [*]; done), by repeat (first | exact Drawn0.refl _ | apply Drawn0.step)⟩
      · rw [if_neg c6] at H
        have c6b0 : (a0 == 6) = false := beq_eq_false_iff_ne.mpr c6
        have c6b1 : (a0 != 6) = true := bne_iff_ne.mpr c6
        by_cases c7 : a2 = 0
        · rw [if_pos c7] at H
          have c7b0 : (a2 == 0) = true := beq_iff_eq.mpr c7
          have c7b1 : (a2 != 0) = false := bne_eq_false_iff_eq.mpr c7
          clear c7
          simp only [Option.some.injEq, Prod.mk.injEq] at H
          obtain ⟨rfl, rfl⟩ := H
          go_enter Try.func41, Try.ntmps41
          go_wp2
          go_ret2
          exact ⟨by first | rfl | (simp; done) | (simp [*]; done), by repeat (first | exact Drawn0.refl _ | apply Drawn0.step)⟩
        · rw [if_neg c7] at H
          have c7b0 : (a2 == 0) = false := beq_eq_false_iff_ne.mpr c7
          have c7b1 : (a2 != 0) = true := bne_iff_ne.mpr c7
          by_cases c8 : a2 = (-1)
          · rw [if_pos c8] at H
            have c8b0 : (a2 == (-1)) = true := beq_iff_eq.mpr c8
            have c8b1 : (a2 != (-1)) = false := bne_eq_false_iff_eq.mpr c8
            clear c8
            simp only [Option.some.injEq, Prod.mk.injEq] at H
            obtain ⟨rfl, rfl⟩ := H
            go_enter Try.func41, Try.ntmps41
            go_wp2
            go_ret2
            exact ⟨by first | rfl | (simp; done) | (simp [*]; done), by repeat (first | exact Drawn0.refl _ | apply Drawn0.step)⟩
          · rw [if_neg c8] at H
            have c8b0 : (a2 == (-1)) = false := beq_eq_false_iff_ne.mpr c8
            have c8b1 : (a2 != (-1)) = true := bne_iff_ne.mpr c8
            simp only [Option.some.injEq, Prod.mk.injEq] at H
            obtain ⟨rfl, rfl⟩ := H
            go_enter Try.func41, Try.ntmps41
            go_wp2
            go_ret2
            exact ⟨by first | rfl | (simp; done) | (simp [*]; done), by repeat (first | exact Drawn0.refl _ | apply Drawn0.step)⟩

-- NOT PRINTED: function 22 (warrenerref25_Local)

-- NOT PRINTED: function 5 (warrenerlaw25_ThreadLocals)

end Go.Proofs.Ythcmcekjgecnhaa.QThreadLocals
