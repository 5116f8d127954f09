-- Written by print2.py (this session's driver of the kit's printer), hand-proved functions among the printed ones.
import Derived.Test.YthllggfimndklacQOctetReadsx0
namespace Go.Proofs.Ythllggfimndklac.QOctetReads
open Go.RowKit Go.Proofs.YthllggfimndklacW.PrintWords Go.Proofs.YthllggfimndklacW.PrintLast Go.Proofs.YthllggfimndklacW.PrintMore
attribute [local go_sem] max2_int min2_int max_two min_two max_three min_three max_four min_four   -- for this text's walks alone
open Go.Proofs.YthllggfimndklacW.HWords
set_option linter.unusedVariables false
set_option linter.unusedSimpArgs false

-- NOT PRINTED: function 14 (octet_Put)

-- NOT PRINTED: function 16 (octet_New)

-- NOT PRINTED: function 20 (octet_Reader_At)

-- NOT PRINTED: function 21 (octet_Reader_Left)

-- NOT PRINTED: function 22 (octet_Reader_Bad)

-- NOT PRINTED: function 35 (octet_Reader_next)

-- NOT PRINTED: function 24 (octet_Reader_Num)

/-! ### warrenerlaw02_alive: function 13 (proved by hand) -/
/-- A reader that New made: its block, the octets, how many were taken, is it bad. -/
def Rdr (w : World) (base g : Nat) (v : Value) (bs : List Int) (at_ : Nat) (bad : Bool) : Prop :=
  base ≤ g ∧ w.heap[g]? = some (.cells #[.bool true, .bool bad, .int .i64 at_, v] 48 (0, 0)) ∧ w.ownsRow base 5 1 v bs.length (nums .u8 bs) ∧ at_ ≤ bs.length ∧ bs.length ≤ 1000000
theorem Rdr.below {w w' : World} {base g : Nat} {v : Value} {bs : List Int} {at_ : Nat} {bad : Bool} (h : Rdr w base g v bs at_ bad) (hb : Below w.heap.size w w') : Rdr w' base g v bs at_ bad :=
  ⟨h.1, (hb.block g (blk_lt h.2.1)).trans h.2.1, pw_own_below h.2.2.1 hb, h.2.2.2⟩
theorem Rdr.ne {w : World} {base g : Nat} {v : Value} {bs : List Int} {at_ : Nat} {bad : Bool} (h : Rdr w base g v bs at_ bad) : some g ≠ v.ownBlock := own_ne h.2.2.1 h.2.1 (by decide)
theorem Rdr.setBad {w : World} {base g : Nat} {v : Value} {bs : List Int} {at_ : Nat} {bad : Bool} (h : Rdr w base g v bs at_ bad) (x : Bool) : Rdr (w.setCell ⟨g, 1, none⟩ (.bool x)) base g v bs at_ x :=
  ⟨h.1, blk_set h.2.1 1 _, own_setCell h.2.2.1 (p := ⟨g, 1, none⟩) h.ne _, h.2.2.2⟩
theorem Rdr.setAt {w : World} {base g : Nat} {v : Value} {bs : List Int} {at_ : Nat} {bad : Bool} (h : Rdr w base g v bs at_ bad) (x : Nat) (hx : x ≤ bs.length) : Rdr (w.setCell ⟨g, 2, none⟩ (.int .i64 x)) base g v bs x bad :=
  ⟨h.1, blk_set h.2.1 2 _, own_setCell h.2.2.1 (p := ⟨g, 2, none⟩) h.ne _, hx, h.2.2.2.2⟩
theorem Rdr.cells {w : World} {base g : Nat} {v : Value} {bs : List Int} {at_ : Nat} {bad : Bool} (h : Rdr w base g v bs at_ bad) : w.cell? ⟨g, 0, none⟩ = some (.bool true) ∧ w.cell? ⟨g, 1, none⟩ = some (.bool bad) ∧ w.cell? ⟨g, 2, none⟩ = some (.int .i64 at_) ∧ w.cell? ⟨g, 3, none⟩ = some v := by
  have c0 := blk_cell h.2.1 0
  have c1 := blk_cell h.2.1 1
  have c2 := blk_cell h.2.1 2
  have c3 := blk_cell h.2.1 3
  simp only [List.getElem?_toArray, List.getElem?_cons_zero, List.getElem?_cons_succ] at c0 c1 c2 c3
  exact ⟨c0, c1, c2, c3⟩
set_option maxHeartbeats 8000000 in
set_option maxRecDepth 100000 in
theorem rd_At {w : World} {base g : Nat} {v : Value} {bs : List Int} {at_ : Nat} {bad : Bool} (h : Rdr w base g v bs at_ bad) : Calls Try.prog 20 #[.pointer (some ⟨g, 0, none⟩)] w fun e w' => e = .returned (.int .i64 at_) ∧ Below w.heap.size w w' := by
  have hu := Try.underlying48
  obtain ⟨c0, c1, c2, c3⟩ := h.cells
  clear h
  go_enter Try.func20, Try.ntmps20
  go_wp2
  go_ret
  exact ⟨rfl, Below.refl _ _⟩
set_option maxHeartbeats 8000000 in
set_option maxRecDepth 100000 in
theorem rd_Left {w : World} {base g : Nat} {v : Value} {bs : List Int} {at_ : Nat} {bad : Bool} (h : Rdr w base g v bs at_ bad) : Calls Try.prog 21 #[.pointer (some ⟨g, 0, none⟩)] w fun e w' => e = .returned (.int .i64 ((bs.length : Int) - at_)) ∧ Below w.heap.size w w' := by
  have hu := Try.underlying48
  obtain ⟨c0, c1, c2, c3⟩ := h.cells
  obtain ⟨A, c, rfl⟩ := own_slice h.2.2.1
  have hw : wrap64 ((bs.length : Int) - at_) = (bs.length : Int) - at_ := by
    have := h.2.2.2
    unfold wrap64
    omega
  clear h
  go_enter Try.func21, Try.ntmps21
  go_wp2
  go_quiet (fail)
  rename_i hK
  refine hK _ _ ?_
  go_wp2
  go_ret
  exact ⟨congrArg (fun x => Ending.returned (Value.int .i64 x)) hw, pw_below_drewN (Below.refl _ _) _⟩
set_option maxHeartbeats 8000000 in
set_option maxRecDepth 100000 in
theorem rd_Bad {w : World} {base g : Nat} {v : Value} {bs : List Int} {at_ : Nat} {bad : Bool} (h : Rdr w base g v bs at_ bad) : Calls Try.prog 22 #[.pointer (some ⟨g, 0, none⟩)] w fun e w' => e = .returned (.bool bad) ∧ Below w.heap.size w w' := by
  have hu := Try.underlying48
  obtain ⟨c0, c1, c2, c3⟩ := h.cells
  clear h
  go_enter Try.func22, Try.ntmps22
  go_wp2
  go_ret
  exact ⟨rfl, Below.refl _ _⟩
theorem grown_setCell {w w1 : World} {g : Nat} (h : w.grownBy w1 (some g)) (i : Nat) (x : Value) : w.grownBy (w1.setCell ⟨g, i, none⟩ x) (some g) :=
  ⟨h.os, h.tape, h.output, by have := h.size; simp only [World.setCell, Array.size_modify]; exact this, fun k hk hne => (Below.heap_setCell w1 ⟨g, i, none⟩ x k (fun e => hne (by rw [e]))).trans (h.block k hk hne)⟩
/-- May so many octets be read? -/
def rd_ok (bs : List Int) (at_ : Nat) (bad : Bool) (k : Int) : Prop := bad = false ∧ 1 ≤ k ∧ k ≤ 8 ∧ k ≤ (bs.length : Int) - at_
theorem Rdr.slice {w : World} {base g : Nat} {v : Value} {bs : List Int} {at_ : Nat} {bad : Bool} (h : Rdr w base g v bs at_ bad) (hp : 0 < bs.length) : ∃ ga c, v = .slice (some ⟨ga, 0, none⟩) bs.length c ∧ bs.length ≤ c ∧ ga < w.heap.size ∧ ∀ i : Nat, i < bs.length → w.cell? ⟨ga, i, none⟩ = some (.int .u8 (bs.getD i 0)) := by
  obtain ⟨h1, h2⟩ := h.2.2.1
  rcases h2 with ⟨rfl, h3⟩ | ⟨ga, c, cur, rfl, hg, hh, r⟩
  · exact absurd h3 (by omega)
  · refine ⟨ga, c, rfl, r.1, blk_lt hh, fun i hi => ?_⟩
    rw [blk_cell hh i]
    have h4 := r.2.2.2
    rw [Nat.mul_one] at h4
    have h5 : cur.toList[i]? = (nums .u8 bs)[i]? := by
      rw [← h4, List.getElem?_take]
      rw [if_pos hi]
    rw [← Array.getElem?_toList, h5]
    unfold nums
    rw [List.getElem?_map, List.getD_eq_getElem?_getD, List.getElem?_eq_getElem hi]
    rfl
set_option maxHeartbeats 8000000 in
set_option maxRecDepth 100000 in
theorem rd_next_no {w : World} {base g : Nat} {v : Value} {bs : List Int} {at_ : Nat} {bad : Bool} (h : Rdr w base g v bs at_ bad) (k : Int) (hk : ¬ rd_ok bs at_ bad k) : Calls Try.prog 35 #[.pointer (some ⟨g, 0, none⟩), .int .i64 k] w fun e w' => e = .returned (.tuple #[.slice none 0 0, .bool false]) ∧ Rdr w' base g v bs at_ true ∧ w.grownBy w' (some g) := by
  have hu := Try.underlying48
  have HR := Aside0.mk h
  have HG : w.grownBy w none := ⟨rfl, rfl, rfl, Nat.le_refl _, fun _ _ _ => rfl⟩
  clear h
  cases bad with
  | true =>
    go_enter Try.func35, Try.ntmps35
    go_wp2_with (go_at_call 22; refine (rd_Bad HR.out).mono ?_; rintro e w1 ⟨rfl, hb⟩; have HR1 := Aside0.mk (HR.out.below hb); have HB1 := Aside0.mk hb; clear hb HR)
    refine bodyPost_ret (results_tmp2 rfl _ _ _) rfl ?_
    exact ⟨rfl, HR1.out, grown_of_below HB1.out _⟩
  | false =>
    by_cases h1 : k < 1
    · go_enter Try.func35, Try.ntmps35
      go_wp2_with (go_at_call 22; refine (rd_Bad HR.out).mono ?_; rintro e w1 ⟨rfl, hb⟩; have HR1 := Aside0.mk (HR.out.below hb); have HB1 := Aside0.mk hb; clear hb HR; obtain ⟨c0, c1, c2, c3⟩ := HR1.out.cells; have f1 := blk_frozen HR1.out.2.1 1)
      refine bodyPost_ret (results_tmp2 rfl _ _ _) rfl ?_
      exact ⟨rfl, HR1.out.setBad true, grown_setCell (grown_of_below HB1.out _) 1 _⟩
    · by_cases h2 : k > 8
      · go_enter Try.func35, Try.ntmps35
        go_wp2_with (go_at_call 22; refine (rd_Bad HR.out).mono ?_; rintro e w1 ⟨rfl, hb⟩; have HR1 := Aside0.mk (HR.out.below hb); have HB1 := Aside0.mk hb; clear hb HR; obtain ⟨c0, c1, c2, c3⟩ := HR1.out.cells; have f1 := blk_frozen HR1.out.2.1 1)
        refine bodyPost_ret (results_tmp2 rfl _ _ _) rfl ?_
        exact ⟨rfl, HR1.out.setBad true, grown_setCell (grown_of_below HB1.out _) 1 _⟩
      · have h3 : k > (bs.length : Int) - at_ := by
          unfold rd_ok at hk
          simp only [true_and] at hk
          omega
        go_enter Try.func35, Try.ntmps35
        go_wp2_with (first | (go_at_call 22; refine (rd_Bad HR.out).mono ?_; rintro e w1 ⟨rfl, hb⟩; have HR1 := Aside0.mk (HR.out.below hb); have HB1 := Aside0.mk hb; clear hb HR; obtain ⟨c0, c1, c2, c3⟩ := HR1.out.cells; have f1 := blk_frozen HR1.out.2.1 1) | (go_at_call 21; refine (rd_Left HR1.out).mono ?_; rintro e w2 ⟨rfl, hb⟩; have HR2 := Aside0.mk (HR1.out.below hb); have HB2 := Aside0.mk (below_step HB1.out hb); clear hb HR1 HB1 c0 c1 c2 c3 f1; obtain ⟨c0, c1, c2, c3⟩ := HR2.out.cells; have f1 := blk_frozen HR2.out.2.1 1))
        refine bodyPost_ret (results_tmp2 rfl _ _ _) rfl ?_
        exact ⟨rfl, HR2.out.setBad true, grown_setCell (grown_of_below HB2.out _) 1 _⟩
set_option maxHeartbeats 8000000 in
set_option maxRecDepth 100000 in
theorem rd_next_ok {w : World} {base g : Nat} {v : Value} {bs : List Int} {at_ : Nat} (h : Rdr w base g v bs at_ false) (k : Int) (hk : 1 ≤ k ∧ k ≤ 8 ∧ k ≤ (bs.length : Int) - at_) : Calls Try.prog 35 #[.pointer (some ⟨g, 0, none⟩), .int .i64 k] w fun e w' => (∃ ga : Nat, e = .returned (.tuple #[.slice (some ⟨ga, at_, none⟩) k.toNat k.toNat, .bool true]) ∧ ∀ i : Nat, i < k.toNat → w'.cell? ⟨ga, at_ + i, none⟩ = some (.int .u8 (bs.getD (at_ + i) 0))) ∧ Rdr w' base g v bs (at_ + k.toNat) false ∧ w.grownBy w' (some g) := by
  have hu := Try.underlying48
  have HR := Aside0.mk h
  have hlen := h.2.2.2.2
  clear h
  have e1 : wrap64 ((at_ : Int) + k) = (at_ : Int) + k := by unfold wrap64; omega
  have e2 : wrap64 (at_ : Int) = (at_ : Int) := by unfold wrap64; omega
  have e3 : wrap64 ((at_ : Int) + k - k) = (at_ : Int) := by unfold wrap64; omega
  have d1 : decide (k < 1) = false := decide_eq_false (by omega)
  have d2 : decide (k > 8) = false := decide_eq_false (by omega)
  have d3 : decide (k > (bs.length : Int) - at_) = false := decide_eq_false (by omega)
  have HK := Aside0.mk hk
  have HE := Aside0.mk hlen
  clear hk hlen
  go_enter Try.func35, Try.ntmps35
  go_wp2_with (first | (go_at_call 22; refine (rd_Bad HR.out).mono ?_; rintro e w1 ⟨rfl, hb⟩; have HR1 := Aside0.mk (HR.out.below hb); have HB1 := Aside0.mk hb; clear hb HR; obtain ⟨c0, c1, c2, c3⟩ := HR1.out.cells; have f1 := blk_frozen HR1.out.2.1 1) | (go_at_call 21; go_loud (refine (rd_Left HR1.out).mono ?_; rintro e w2 ⟨rfl, hb⟩; have HR2 := Aside0.mk (HR1.out.below hb); have HB2 := Aside0.mk (below_step HB1.out hb); clear hb HR1 HB1 c0 c1 c2 c3 f1; obtain ⟨ga, c, hv, hc, hga, hcell⟩ := HR2.out.slice (by have := HK.out; omega); subst hv; have HC := Aside0.mk hcell; clear hcell; obtain ⟨c0, c1, c2, c3⟩ := HR2.out.cells; have f2 := blk_frozen HR2.out.2.1 2; have hk := HK.out; have b1 : (0 : Int) ≤ at_ := (by omega); have b2 : (at_ : Int) ≤ (at_ : Int) + k := (by omega); have b3 : (at_ : Int) + k ≤ c := (by omega); have b4 : (0 : Int) ≤ (at_ : Int) + k := (by omega); clear hk)))
  have hk := HK.out
  have hkk : (at_ : Int) + k = ((at_ + k.toNat : Nat) : Int) := by omega
  have hle : at_ + k.toNat ≤ bs.length := by omega
  have hpos : 0 < bs.length := by omega
  have hne : ¬ at_ + k.toNat = at_ := by omega
  have hx : wrap64 (((at_ + k.toNat : Nat) : Int) - k) = (at_ : Int) := by rw [← hkk]; exact e3
  have hs : (((at_ + k.toNat : Nat) : Int) - (at_ : Int)).toNat = k.toNat := by omega
  have R3 := HR2.out.setAt (at_ + k.toNat) hle
  have G3 := grown_setCell (grown_of_below HB2.out (some g)) 2 (.int .i64 ((at_ + k.toNat : Nat) : Int))
  have hb2 : (at_ : Int) ≤ ((at_ + k.toNat : Nat) : Int) := by omega
  have hb3 : ((at_ + k.toNat : Nat) : Int) ≤ (c : Int) := by omega
  have hb0 : (0 : Int) ≤ ((at_ + k.toNat : Nat) : Int) := by omega
  rw [hkk]
  clear hkk e1 e2 e3 b2 b3 b4 c0 c1 c2 c3 f2 hk
  generalize w2.setCell ⟨g, 2, none⟩ (.int .i64 ((at_ + k.toNat : Nat) : Int)) = W at R3 G3 ⊢
  generalize hq : at_ + k.toNat = q at hne R3 hle hx hs hb2 hb3 hb0 ⊢
  obtain ⟨c0, c1, c2, c3⟩ := R3.cells
  have HR3 := Aside0.mk R3
  have HG3 := Aside0.mk G3
  have HQ := Aside0.mk hq
  have HS := Aside0.mk hs
  obtain ⟨ga', c', hv', hu1, hu2, hcell⟩ := R3.slice hpos
  obtain ⟨rfl, rfl⟩ : ga = ga' ∧ c = c' := by simpa using hv'
  have HC2 := Aside0.mk hcell
  clear hv' hu1 hu2 hcell hpos
  clear R3 G3 HR2 HB2 HC HE d1 d2 d3 hc hga hq hle hs
  go_quiet (fail)
  rename_i hK
  refine hK _ _ ?_
  go_wp2
  refine bodyPost_ret (results_tmp2 rfl _ _ _) rfl ?_
  have hk := HK.out
  have hq := HQ.out
  refine ⟨⟨ga, ?_, fun i hi => ?_⟩, ?_, ?_⟩
  · have h2 : q - at_ = k.toNat := by omega
    show Ending.returned (Value.tuple #[Value.slice (some ⟨ga, at_, none⟩) (q - at_) (q - at_), Value.bool true]) = _
    rw [h2]
  · exact HC2.out (at_ + i) (by have := HR3.out.2.2.2; omega)
  · rw [hq]
    exact HR3.out.below (pw_below_drewN (Below.refl _ _) _)
  · exact ⟨HG3.out.os, HG3.out.tape, HG3.out.output, HG3.out.size, HG3.out.block⟩
def oct_step (x b : Int) : Int := bits BinOp.or IntKind.u64 (IntKind.u64.wrap (x * 256)) (IntKind.u64.wrap b)
def oct_take (l : List Int) : Int := l.foldl oct_step 0
/-- The octets that are read next. -/
def oct_cut (bs : List Int) (at_ n : Nat) : List Int := (bs.drop at_).take n
theorem oct_more {bs : List Int} {at_ i : Nat} (h : at_ + i < bs.length) : oct_take (oct_cut bs at_ (i + 1)) = oct_step (oct_take (oct_cut bs at_ i)) (bs[at_ + i]?.getD 0) := by
  have : oct_cut bs at_ (i + 1) = oct_cut bs at_ i ++ [bs[at_ + i]?.getD 0] := by
    unfold oct_cut
    rw [List.take_succ_eq_append_getElem (by rw [List.length_drop]; omega), List.getElem_drop, List.getElem?_eq_getElem h]
    rfl
  rw [this]
  unfold oct_take
  rw [List.foldl_append]
  rfl
set_option maxHeartbeats 8000000 in
set_option maxRecDepth 100000 in
theorem rd_Num_no {w : World} {base g : Nat} {v : Value} {bs : List Int} {at_ : Nat} {bad : Bool} (h : Rdr w base g v bs at_ bad) (k : Int) (hk : ¬ rd_ok bs at_ bad k) : Calls Try.prog 24 #[.pointer (some ⟨g, 0, none⟩), .int .i64 k] w fun e w' => e = .returned (.tuple #[.int .i64 0, .bool false]) ∧ Rdr w' base g v bs at_ true ∧ w.grownBy w' (some g) := by
  go_enter Try.func24, Try.ntmps24
  go_wp2_with (go_at_call 35; refine (rd_next_no h k hk).mono ?_; rintro e w1 ⟨rfl, hR, hG⟩; have HR := Aside0.mk hR; have HG := Aside0.mk hG; clear hR hG)
  go_loopw [8, 19] (fun v8 v19 wr => v8 = .int .u64 0 ∧ v19 = .int .i64 0 ∧ wr = w1) (fun _ _ _ => 0)
  case atStart => exact ⟨rfl, rfl, rfl⟩
  case round =>
    obtain ⟨rfl, rfl, rfl⟩ := hrel
    go_wp2
    refine bodyPost_ret (results_tmp2 rfl _ _ _) rfl ?_
    exact ⟨rfl, HR.out, HG.out⟩
set_option maxHeartbeats 8000000 in
set_option maxRecDepth 100000 in
theorem rd_Num_ok {w : World} {base g : Nat} {v : Value} {bs : List Int} {at_ : Nat} (h : Rdr w base g v bs at_ false) (k : Int) (hk : 1 ≤ k ∧ k ≤ 8 ∧ k ≤ (bs.length : Int) - at_) : Calls Try.prog 24 #[.pointer (some ⟨g, 0, none⟩), .int .i64 k] w fun e w' => e = .returned (.tuple #[.int .i64 (wrap64 (oct_take (oct_cut bs at_ k.toNat))), .bool true]) ∧ Rdr w' base g v bs (at_ + k.toNat) false ∧ w.grownBy w' (some g) := by
  go_enter Try.func24, Try.ntmps24
  go_wp2_with (go_at_call 35; refine (rd_next_ok h k hk).mono ?_; rintro e w1 ⟨⟨ga, rfl, hcell⟩, hR, hG⟩; have HR := Aside0.mk hR; have HG := Aside0.mk hG; have HC := Aside0.mk hcell; clear hR hG hcell)
  go_loopw [8, 19] (fun v8 v19 wr => ∃ (i : Nat), i ≤ k.toNat ∧ v8 = .int .u64 (oct_take (oct_cut bs at_ i)) ∧ v19 = .int .i64 i ∧ wr = w1) (fun _ i _ => k.toNat - (intOf i).toNat)
  case atStart => exact ⟨0, by omega, rfl, rfl, rfl⟩
  case round =>
    obtain ⟨i, hi, rfl, rfl, rfl⟩ := hrel
    by_cases hlt : i < k.toNat
    · have c0 := HC.out i hlt
      have hlt2 : (i : Int) < (k.toNat : Int) := by omega
      have hm := Aside0.mk (oct_more (bs := bs) (at_ := at_) (i := i) (by have := HR.out.2.2.2; omega))
      have hi2 := Aside0.mk hlt
      generalize oct_take (oct_cut bs at_ i) = x at hm ⊢
      go_wp2
      refine ⟨⟨i + 1, by have := hi2.out; omega, ?_, by go_num, trivial⟩, by have := hi2.out; simp [intOf]; omega⟩
      rw [hm.out]
      rfl
    · have hlt2 : ¬ (i : Int) < (k.toNat : Int) := by omega
      obtain rfl : i = k.toNat := by omega
      go_wp2
      refine bodyPost_ret (results_tmp2 rfl _ _ _) rfl ?_
      exact ⟨rfl, HR.out, HG.out⟩
def oct_signed (x k : Int) : Int := wrap64 (x * 2 ^ (64 - 8 * k).toNat) / 2 ^ (64 - 8 * k).toNat
set_option maxHeartbeats 8000000 in
set_option maxRecDepth 100000 in
theorem rd_Signed_no {w : World} {base g : Nat} {v : Value} {bs : List Int} {at_ : Nat} {bad : Bool} (h : Rdr w base g v bs at_ bad) (k : Int) (hk : ¬ rd_ok bs at_ bad k) : Calls Try.prog 23 #[.pointer (some ⟨g, 0, none⟩), .int .i64 k] w fun e w' => e = .returned (.tuple #[.int .i64 0, .bool false]) ∧ Rdr w' base g v bs at_ true ∧ w.grownBy w' (some g) := by
  go_enter Try.func23, Try.ntmps23
  go_wp2_with (go_at_call 24; refine (rd_Num_no h k hk).mono ?_; rintro e w1 ⟨rfl, hR, hG⟩; have HR := Aside0.mk hR; have HG := Aside0.mk hG; clear hR hG)
  refine bodyPost_ret (results_tmp2 rfl _ _ _) rfl ?_
  exact ⟨rfl, HR.out, HG.out⟩
set_option maxHeartbeats 8000000 in
set_option maxRecDepth 100000 in
theorem rd_Signed_ok {w : World} {base g : Nat} {v : Value} {bs : List Int} {at_ : Nat} (h : Rdr w base g v bs at_ false) (k : Int) (hk : 1 ≤ k ∧ k ≤ 8 ∧ k ≤ (bs.length : Int) - at_) : Calls Try.prog 23 #[.pointer (some ⟨g, 0, none⟩), .int .i64 k] w fun e w' => e = .returned (.tuple #[.int .i64 (oct_signed (wrap64 (oct_take (oct_cut bs at_ k.toNat))) k), .bool true]) ∧ Rdr w' base g v bs (at_ + k.toNat) false ∧ w.grownBy w' (some g) := by
  have e1 : wrap64 (8 * k) = 8 * k := by unfold wrap64; omega
  obtain ⟨y, hy⟩ : ∃ y : Int, y = 64 - 8 * k := ⟨_, rfl⟩
  have e3 : (0 : Int) ≤ y := by omega
  have e4 : y ≤ 64 := by omega
  have e2 : wrap64 (64 - 8 * k) = y := by rw [hy]; unfold wrap64; omega
  unfold oct_signed
  rw [← hy]
  clear hy
  have H := Aside0.mk h
  have HK := Aside0.mk hk
  clear h hk
  go_enter Try.func23, Try.ntmps23
  go_wp2_with (go_at_call 24; refine (rd_Num_ok H.out k HK.out).mono ?_; rintro e w1 ⟨rfl, hR, hG⟩; have HR := Aside0.mk hR; have HG := Aside0.mk hG; clear hR hG)
  refine bodyPost_ret (results_tmp2 rfl _ _ _) rfl ?_
  exact ⟨rfl, HR.out, HG.out⟩
theorem oct_info : (Try.prog.info? 5).map (fun i => (i.zero, i.size, i.bytes)) = some (some (.int .u8 0), 1, 1) := by kernel_rfl
set_option maxHeartbeats 8000000 in
set_option maxRecDepth 100000 in
theorem rd_New {w : World} {A : Option Addr} {c : Nat} {bs : List Int} (h : ReadsInt w .u8 A bs.length bs) (hl : bs.length ≤ 1000000) : Calls Try.prog 16 #[.slice A bs.length c] w fun e w' => ∃ (g : Nat) (v : Value), e = .returned (.pointer (some ⟨g, 0, none⟩)) ∧ Rdr w' w.heap.size g v bs 0 false ∧ Below w.heap.size w w' := by
  have hu := Try.underlying48
  have HL := Aside0.mk hl
  have HR := Aside0.mk h
  clear h hl
  go_enter Try.func16, Try.ntmps16
  go_wp2_with (at_builtin; go_loud (refine print_append_row (w0 := w) w.heap.size ?b1 (.tmp 3) (.tmp 4) 32 5 .u8 1 ?b2 Try.underlying32 oct_info ?b3 (.slice (some ⟨w.heap.size, 0, none⟩) 0 0) [] bs A bs.length c ?b4 ?b5 ?b6 ?b7 ?b8 ?b9 ?b10 ?b11; (case b1 => rfl); (case b2 => rfl); (case b3 => decide); (case b4 => rfl); (case b5 => rfl); (case b6 => exact own_lit w w.heap.size 5 .u8 [] (Nat.le_refl _) (by simp)); (case b7 => exact HR.out.below (below_alloc (Below.refl _ _) _)); (case b8 => exact below_alloc (Below.refl _ _) _); (case b9 => simp); (case b10 => have := HL.out; simp; omega); intro v w1 ho hb hg hat; rw [List.nil_append] at ho; obtain ⟨A1, c1, rfl⟩ := own_slice ho; have HO := Aside0.mk ho; have HB := Aside0.mk hb; clear ho hb hg hat))
  refine bodyPost_ret (results_tmp rfl _ _ _) rfl ?_
  exact ⟨_, _, rfl, ⟨HB.out.size, blk_new _ _, pw_own_below HO.out (below_alloc (Below.refl _ _) _), Nat.zero_le _, HL.out⟩, below_alloc HB.out _⟩
theorem nums_one {k : IntKind} {l : List Int} : ∀ u ∈ nums k l, u.oneCell' = true := by
  intro u hu
  simp only [nums, List.mem_map] at hu
  obtain ⟨x, _, rfl⟩ := hu
  rfl
theorem put_cells {W : World} {g : Nat} {L : List Int} (h : W.heap[g]? = some (.cells (nums .u8 L).toArray 58 (0, 0))) (i : Nat) : ∀ j u, (nums .u8 (L.take i))[j]? = some u → W.drew.cell? ((⟨g, 0, none⟩ : Addr).add j) = some u := by
  intro j u hu
  rw [Addr.add_lit]
  have h1 := blk_cell h (0 + j)
  rw [List.getElem?_toArray, Nat.zero_add] at h1
  rw [Nat.zero_add]
  refine Eq.trans h1 ?_
  simp only [nums, List.map_take] at hu ⊢
  rw [List.getElem?_take] at hu
  split at hu
  · exact hu
  · cases hu
theorem put_olds {w W : World} {ad : Addr} {bs : List Int} (h : ReadsInt w .u8 (some ad) bs.length bs) (hb : Below w.heap.size w W) : ∀ j u, (nums .u8 bs)[j]? = some u → W.drew.cell? (ad.add j) = some u := by
  intro j u hu
  have hj : j < bs.length := by
    rcases Nat.lt_or_ge j bs.length with hj | hj
    · exact hj
    · rw [List.getElem?_eq_none (by rw [nums_length]; exact hj)] at hu
      cases hu
  obtain ⟨ad', e, hc⟩ := h.2.2 (by omega)
  cases e
  have h2 := (h.below hb).2.2 (by omega)
  obtain ⟨ad', e, hc⟩ := h2
  cases e
  refine Eq.trans (hc j hj) ?_
  rw [← hu]
  simp only [nums, List.getElem?_map, List.getD_eq_getElem?_getD, List.getElem?_eq_getElem hj]
  rfl
theorem step_grow {P : Program} {w : World} {ops : Array Oper} {o : Oper} {a : Act} {K : Act → World → Prop} {Q : Exit → Act → World → Prop} {E : Prop} (hg : o.guard = none) (s x : Operand) (t : TypeId) (hop : o.op = Op.call { callee := Callee.builtin Builtin.append, args := #[s, x], argTypes := #[t, t] })
    (e : TypeId) (z : Value) (size bytes : Nat) (h1 : P.underlying t = some (.slice e)) (hinfo : (P.info? e).map (fun i => (i.zero, i.size, i.bytes)) = some (some z, size, bytes)) (h6 : z.cells.size = size) (h7 : 0 < size)
    (ao : Option Addr) (n cap : Nat) (olds : List Value) (hs : a.eval s = .slice ao n cap) (hnone : ao = none → n = 0 ∧ cap = 0) (hlo : olds.length = n * size) (holds : ∀ b, ao = some b → ∀ j u, olds[j]? = some u → w.cell? (b.add j) = some u)
    (ad : Addr) (m c : Nat) (news : List Value) (hx : a.eval x = .slice (some ad) m c) (hn : news.length = m * size) (hc : ∀ j u, news[j]? = some u → w.cell? (ad.add j) = some u) (h1c : ∀ u ∈ news, u.oneCell' = true)
    (hfull : cap < n + m) (b1 : n + m ≤ maxLen) (b2 : (n + m) * bytes ≤ 140737488355328)
    (hK : ∀ v' w', w'.ownsRow w.heap.size e size v' (n + m) (olds ++ news) → w.grownBy w' none → K (a.put o.dst v') w') :
    if Region.wanted o (yielded ops a.tmps) = true then Oper.wp P o a w K Q else E := by
  have hw : Region.wanted o (yielded ops a.tmps) = true := by simp [Region.wanted, hg]
  rw [if_pos hw]
  obtain ⟨i, h2, hzz⟩ := Option.map_eq_some_iff.1 hinfo
  simp only [Prod.mk.injEq] at hzz
  obtain ⟨h3, h4, h5⟩ := hzz
  cases ao with
  | some b =>
    obtain ⟨v', w', hrun, r1, r2⟩ := run_append_arg_grows (P := P) w t o.type e i z size bytes h1 h2 h3 h4 h5 h6 h7 b n cap olds hlo (holds b rfl) ad m c news hn hc hfull b1 b2
    unfold Oper.wp
    simp [execOp, hop, resolve, invoke, builtin, hs, hx, hrun, Result.andThen]
    exact hK v' w' r1 r2
  | none =>
    obtain ⟨rfl, rfl⟩ := hnone rfl
    obtain rfl : olds = [] := List.eq_nil_of_length_eq_zero (by simpa using hlo)
    obtain ⟨v', w', hrun, r1, r2, _⟩ := run_append_own (P := P) w w.heap.size t o.type e i z size bytes h1 h2 h3 h4 h5 h6 h7 (.slice none 0 0) 0 [] (World.ownsRow_nil w _ e size) ad m c news hn hc h1c b1 b2 (Nat.le_refl _)
    unfold Oper.wp
    simp [execOp, hop, resolve, invoke, builtin, hs, hx, hrun, Result.andThen]
    exact hK v' w' r1 r2
def put_x (x : Int) : Nat → Int
  | 0 => x
  | i + 1 => put_x x i / 256
def put_row (x : Int) (k : Nat) : Nat → List Int
  | 0 => List.replicate 8 0
  | i + 1 => (put_row x k i).set (k - 1 - i) (put_x x i % 256)
theorem put_row_len (x : Int) (k : Nat) : ∀ i, (put_row x k i).length = 8
  | 0 => rfl
  | i + 1 => by rw [put_row, List.length_set, put_row_len x k i]
set_option maxHeartbeats 8000000 in
set_option maxRecDepth 100000 in
theorem rd_Put_no {w : World} {A : Option Addr} {n c : Nat} (x k : Int) (hk : k < 1 ∨ 8 < k) : Calls Try.prog 14 #[.slice A n c, .int .i64 x, .int .i64 k] w fun e w' => e = .returned (.slice A n c) ∧ Below w.heap.size w w' := by
  by_cases h1 : k < 1
  · go_enter Try.func14, Try.ntmps14
    go_wp2
    go_ret
    exact ⟨rfl, Below.refl _ _⟩
  · have d1 : decide (k < 1) = false := decide_eq_false h1
    have d2 : decide (k > 8) = true := decide_eq_true (by omega)
    go_enter Try.func14, Try.ntmps14
    go_wp2
    go_ret
    exact ⟨rfl, Below.refl _ _⟩
set_option maxHeartbeats 8000000 in
set_option maxRecDepth 100000 in
theorem rd_Put_ok {w : World} {A : Option Addr} {c : Nat} {bs : List Int} (h : ReadsInt w .u8 A bs.length bs) (hc : bs.length ≤ c) (hl : bs.length ≤ 1000000) (x : Int) (k : Nat) (hk : 1 ≤ k ∧ k ≤ 8) : Calls Try.prog 14 #[.slice A bs.length c, .int .i64 x, .int .i64 k] w fun e w' => ∃ v : Value, e = .returned v ∧ w'.ownsRow w.heap.size 5 1 v (bs.length + k) (nums .u8 (bs ++ (put_row (IntKind.u64.wrap x) k k).take k)) ∧ Below w.heap.size w w' := by
  have d1 : decide ((k : Int) < 1) = false := decide_eq_false (by omega)
  have d2 : decide ((k : Int) > 8) = false := decide_eq_false (by omega)
  obtain ⟨K, hK⟩ : ∃ K : Int, K = (k : Int) := ⟨_, rfl⟩
  rw [← hK] at d1 d2 ⊢
  have HK := Aside0.mk hK
  have HH := Aside0.mk h
  have HC := Aside0.mk hc
  have HL := Aside0.mk hl
  have H8 := Aside0.mk hk
  clear hK h hc hl hk
  go_enter Try.func14, Try.ntmps14
  go_wp2
  go_loopw [8, 20] (fun v8 v20 wr => ∃ i : Nat, i ≤ k ∧ v8 = .int .u64 (put_x (IntKind.u64.wrap x) i) ∧ v20 = .int .i64 i ∧ Aside0 (wr.heap[w.heap.size]? = some (.cells (nums .u8 (put_row (IntKind.u64.wrap x) k i)).toArray 58 (0, 0))) ∧ Aside0 (Below w.heap.size w wr)) (fun _ i _ => k - (intOf i).toNat)
  case atStart => exact ⟨0, by omega, rfl, rfl, ⟨blk_new _ _⟩, ⟨below_alloc (Below.refl _ _) _⟩⟩
  case round =>
    obtain ⟨i, hi, rfl, rfl, HB, HW⟩ := hrel
    by_cases hlt : i < k
    · have hd : decide ((i : Int) < K) = true := decide_eq_true (by have := HK.out; omega)
      have e1 : wrap64 (K - 1) = K - 1 := by have := HK.out; have := H8.out; unfold wrap64; omega
      have e2 : wrap64 (K - 1 - (i : Int)) = ((k - 1 - i : Nat) : Int) := by have := HK.out; have := H8.out; unfold wrap64; omega
      have b0 : (0 : Int) ≤ ((k - 1 - i : Nat) : Int) := by omega
      have b1 : ((k - 1 - i : Nat) : Int) < 8 := by have := H8.out; omega
      have hc0 : ∃ u, wr.cell? ⟨w.heap.size, k - 1 - i, none⟩ = some u := by
        have h8 := put_row_len (IntKind.u64.wrap x) k i
        have := H8.out
        refine ⟨_, (blk_cell HB.out (k - 1 - i)).trans ((List.getElem?_toArray ..).trans (List.getElem?_eq_getElem (by rw [nums_length]; omega)))⟩
      obtain ⟨u, hc0⟩ := hc0
      have hf0 := blk_frozen HB.out (k - 1 - i)
      have HI := Aside0.mk hlt
      clear hlt hi
      generalize hq : k - 1 - i = q at e2 b0 b1 hc0 hf0
      have e3 : wrap64 ((i : Int) + 1) = ((i + 1 : Nat) : Int) := by have := HI.out; have := H8.out; unfold wrap64; omega
      have HQ := Aside0.mk hq
      clear hq
      go_wp2
      have p1 : put_x (IntKind.u64.wrap x) i / 256 = put_x (IntKind.u64.wrap x) (i + 1) := by rw [put_x]
      have p2 : (wr.setCell ⟨w.heap.size, q, none⟩ (.int .u8 (put_x (IntKind.u64.wrap x) i % 256))).heap[w.heap.size]? = some (.cells (nums .u8 (put_row (IntKind.u64.wrap x) k (i + 1))).toArray 58 (0, 0)) := by
        rw [put_row, HQ.out, blk_set HB.out q (.int .u8 (put_x (IntKind.u64.wrap x) i % 256))]
        simp only [nums, List.map_set, List.setIfInBounds_toArray]
      have p3 : i + 1 ≤ k := by have := HI.out; omega
      have p4 : k - (((i + 1 : Nat) : Int)).toNat < k - ((i : Int)).toNat := by omega
      rw [e3, p1]
      exact ⟨⟨i + 1, p3, rfl, rfl, ⟨p2⟩, ⟨below_far HW.out (Nat.le_refl _) _⟩⟩, p4⟩
    · have hd : decide ((i : Int) < K) = false := decide_eq_false (by have := HK.out; omega)
      obtain rfl : i = k := by omega
      go_wp2
      obtain ⟨L, hL⟩ : ∃ L, L = put_row (IntKind.u64.wrap x) i i := ⟨_, rfl⟩
      have h8 : L.length = 8 := by rw [hL]; exact put_row_len _ _ _
      have s1 : (0 : Int) ≤ K := by have := HK.out; omega
      have s2 : K ≤ 8 := by have := HK.out; have := H8.out; omega
      have s3 : (bs.length : Int) ≤ c := by have := HC.out; omega
      rw [← hL] at HB
      have hKn : K.toNat = i := by have := HK.out; omega
      cases A with
      | none =>
        have hn0 : bs.length = 0 := by
          rcases Nat.eq_zero_or_pos bs.length with h0 | h0
          · exact h0
          · obtain ⟨ad, hh, _⟩ := HH.out.2.2 h0
            cases hh
        have HN0 := Aside0.mk hn0
        clear hn0
        have HKN := Aside0.mk hKn
        have H8L := Aside0.mk h8
        have HLL := Aside0.mk hL
        clear hKn h8 hL
        go_region_law (refine step_grow (w := wr.drew) rfl (.tmp 38) (.tmp 40) 32 rfl 5 (.int .u8 0) 1 1 Try.underlying32 oct_info rfl (by decide) (none) bs.length bs.length (nums .u8 bs) ?bS ?bN ?bP ?bO ⟨w.heap.size, 0, none⟩ K.toNat 8 (nums .u8 (L.take i)) ?bX ?bL ?bC ?b1 ?bF ?bM ?bB ?_; (case bS => kernel_rfl); (case bN => exact fun _ => ⟨HN0.out, HN0.out⟩); (case bP => rw [nums_length, Nat.mul_one]); (case bO => intro b hb; cases hb); (case bX => kernel_rfl); (case bL => have := HKN.out; have := H8L.out; have := H8.out; rw [nums_length, List.length_take]; omega); (case bC => exact put_cells HB.out i); (case b1 => exact nums_one); (case bF => have := HKN.out; have := H8.out; omega); (case bM => have := HKN.out; have := H8.out; have := HL.out; simp only [maxLen]; omega); (case bB => have := HKN.out; have := H8.out; have := HL.out; omega); intro v w9 ho hg; have HO := Aside0.mk ho; have HG := Aside0.mk hg; clear ho hg)
        go_wp2
        refine bodyPost_ret (results_tmp rfl _ _ _) rfl ?_
        refine ⟨v, rfl, ?_, ?_⟩
        · have ho := HO.out
          rw [HKN.out, HLL.out] at ho
          rw [nums_append]
          exact own_weaken ho (by have := HW.out.size; exact this)
        · have hg := HG.out
          exact ⟨hg.os.trans HW.out.os, hg.tape.trans HW.out.tape, hg.output.trans HW.out.output, Nat.le_trans HW.out.size hg.size, fun q hq => (hg.block q (Nat.lt_of_lt_of_le hq HW.out.size) (by simp)).trans (HW.out.block q hq)⟩
      | some ad =>
        have HKN := Aside0.mk hKn
        have H8L := Aside0.mk h8
        have HLL := Aside0.mk hL
        clear hKn h8 hL
        go_region_law (refine step_grow (w := wr.drew) rfl (.tmp 38) (.tmp 40) 32 rfl 5 (.int .u8 0) 1 1 Try.underlying32 oct_info rfl (by decide) (some ad) bs.length bs.length (nums .u8 bs) ?bS ?bN ?bP ?bO ⟨w.heap.size, 0, none⟩ K.toNat 8 (nums .u8 (L.take i)) ?bX ?bL ?bC ?b1 ?bF ?bM ?bB ?_; (case bS => kernel_rfl); (case bN => intro hh; cases hh); (case bP => rw [nums_length, Nat.mul_one]); (case bO => intro b hb; cases hb; exact put_olds HH.out HW.out); (case bX => kernel_rfl); (case bL => have := HKN.out; have := H8L.out; have := H8.out; rw [nums_length, List.length_take]; omega); (case bC => exact put_cells HB.out i); (case b1 => exact nums_one); (case bF => have := HKN.out; have := H8.out; omega); (case bM => have := HKN.out; have := H8.out; have := HL.out; simp only [maxLen]; omega); (case bB => have := HKN.out; have := H8.out; have := HL.out; omega); intro v w9 ho hg; have HO := Aside0.mk ho; have HG := Aside0.mk hg; clear ho hg)
        go_wp2
        refine bodyPost_ret (results_tmp rfl _ _ _) rfl ?_
        refine ⟨v, rfl, ?_, ?_⟩
        · have ho := HO.out
          rw [HKN.out, HLL.out] at ho
          rw [nums_append]
          exact own_weaken ho (by have := HW.out.size; exact this)
        · have hg := HG.out
          exact ⟨hg.os.trans HW.out.os, hg.tape.trans HW.out.tape, hg.output.trans HW.out.output, Nat.le_trans HW.out.size hg.size, fun q hq => (hg.block q (Nat.lt_of_lt_of_le hq HW.out.size) (by simp)).trans (HW.out.block q hq)⟩
theorem alive_num : wrap64 (oct_take (oct_cut [0, 1, 2] 0 3)) = 258 := by decide +kernel
theorem alive_str : strOfNums (([] : List Int) ++ (put_row (IntKind.u64.wrap 258) 3 3).take 3) = ⟨#[0, 1, 2]⟩ := by decide +kernel
theorem alive_New (w : World) : Calls Try.prog 16 #[.slice (some ⟨w.heap.size, 0, none⟩) 3 3] (w.alloc (.cells #[.int .u8 0, .int .u8 1, .int .u8 2] 5)) fun e w' => ∃ (g : Nat) (v : Value), e = .returned (.pointer (some ⟨g, 0, none⟩)) ∧ Rdr w' w.heap.size g v [0, 1, 2] 0 false ∧ Below w.heap.size w w' := by
  have ho := own_lit w w.heap.size 5 .u8 [0, 1, 2] (Nat.le_refl _) (by decide)
  obtain ⟨A, c, e, hr⟩ := own_reads ho
  cases e
  refine (rd_New (bs := [0, 1, 2]) (c := 3) hr (by decide)).mono ?_
  rintro e w' ⟨g, v, rfl, hR, hB⟩
  have hs : w.heap.size ≤ (w.alloc (.cells #[.int .u8 0, .int .u8 1, .int .u8 2] 5)).heap.size := by simp
  exact ⟨g, v, rfl, ⟨Nat.le_trans hs hR.1, hR.2.1, own_weaken hR.2.2.1 hs, hR.2.2.2⟩, below_step (below_alloc (Below.refl _ _) _) hB⟩
theorem alive_Num {w0 w : World} {g : Nat} {v : Value} (h : Rdr w w0.heap.size g v [0, 1, 2] 0 false) (hb : Below w0.heap.size w0 w) : Calls Try.prog 24 #[.pointer (some ⟨g, 0, none⟩), .int .i64 3] w fun e w' => e = .returned (.tuple #[.int .i64 258, .bool true]) ∧ Rdr w' w0.heap.size g v [0, 1, 2] 3 false ∧ Below w0.heap.size w0 w' := by
  refine (rd_Num_ok h 3 (by simp)).mono ?_
  rintro e w' ⟨rfl, hR, hG⟩
  refine ⟨?_, hR, pw_below_grown hb _ hb.size hG (by rintro k ⟨rfl⟩; exact h.1)⟩
  rw [show ((3 : Int).toNat) = 3 from rfl, alive_num]
theorem alive_Put {w0 w : World} {g : Nat} {v : Value} (h : Rdr w w0.heap.size g v [0, 1, 2] 3 false) (hb : Below w0.heap.size w0 w) : Calls Try.prog 14 #[.slice none 0 0, .int .i64 258, .int .i64 3] w fun e w' => ∃ A c, e = .returned (.slice A 3 c) ∧ (convert 32 9 (.slice A 3 c)).run Try.prog w' = .ok (.string ⟨#[0, 1, 2]⟩) w' ∧ Rdr w' w0.heap.size g v [0, 1, 2] 3 false ∧ Below w0.heap.size w0 w' := by
  refine (rd_Put_ok (A := none) (c := 0) (bs := []) ⟨rfl, by decide, fun hh => absurd hh (by decide)⟩ (Nat.le_refl _) (by decide) 258 3 (by decide)).mono ?_
  rintro e w' ⟨v2, rfl, ho, hB⟩
  obtain ⟨A, c, rfl⟩ := own_slice ho
  have hc := own_string (src := 32) (dst := 9) Try.underlying32 Try.underlying5 Try.underlying9 ho
  rw [alive_str] at hc
  exact ⟨A, c, rfl, hc, h.below hB, below_step hb hB⟩
set_option maxHeartbeats 8000000 in
set_option maxRecDepth 100000 in
theorem alive_calls (w : World) : Calls Try.prog 13 #[] w fun e w' => e = .returned (.bool true) ∧ Below w.heap.size w w' := by
  go_enter Try.func13, Try.ntmps13
  go_wp2_with (first | (go_at_call 16; refine (alive_New w).mono ?_; rintro e w1 ⟨g, v, rfl, hR, hB⟩; have HR := Aside0.mk hR; have HB := Aside0.mk hB; clear hR hB) | (go_at_call 24; refine (alive_Num HR.out HB.out).mono ?_; rintro e w2 ⟨rfl, hR, hB⟩; have HR2 := Aside0.mk hR; have HB2 := Aside0.mk hB; clear hR hB HR HB) | (go_at_call 14; refine (alive_Put HR2.out HB2.out).mono ?_; rintro e w3 ⟨A, c, rfl, hcv, hR, hB⟩; have HR3 := Aside0.mk hR; have HB3 := Aside0.mk hB; clear hR hB HR2 HB2) | (go_at_call 20; refine (rd_At HR3.out).mono ?_; rintro e w4 ⟨rfl, hB⟩; have HB4 := Aside0.mk (below_step HB3.out hB); clear hB HR3 HB3))
  go_ret
  exact ⟨rfl, HB4.out⟩
def warrenerlaw02_alive.f : Option Bool := some true
theorem warrenerlaw02_alive.calls (r : Bool) (w : World) (h : warrenerlaw02_alive.f = some r) : Calls Try.prog 13 #[] w fun e w' => e = .returned (.bool r) ∧ Below w.heap.size w w' := by
  obtain rfl := Option.some.inj h
  exact alive_calls w

/-! ### warrenerref02_Take: function 17 -/
def warrenerref02_Take.l0 : Nat → List Int → Int → Int → Option (Int)
  | 0, _, _, _ => none
  | k + 1, x0, x3, x4 => if x4 < (x0.length : Int) then (if 0 ≤ x4 then (warrenerref02_Take.l0 k x0 (IntKind.u64.wrap ((IntKind.u64.wrap (x3 * 256)) + (IntKind.u64.wrap (rd x0 x4)))) (wrap64 (x4 + 1))) else (none)) else (some (wrap64 (x3)))
def warrenerref02_Take.f (k : Nat) (l0 : List Int) : Option (Int) := warrenerref02_Take.l0 k l0 0 0
theorem warrenerref02_Take.mono_l : ∀ k, (∀ y0 y1 y2, LeO (warrenerref02_Take.l0 k y0 y1 y2) (warrenerref02_Take.l0 (k + 1) y0 y1 y2))
  | 0 => fun _ _ _ r h => by simp [warrenerref02_Take.l0] at h
  | k + 1 => by
    have ih0 := warrenerref02_Take.mono_l k
    · intro y0 y1 y2
      unfold warrenerref02_Take.l0
      repeat' first
      | (with_reducible exact ih0 _ _ _)
      | (with_reducible exact LeO.refl _)
      | (with_reducible exact LeO.none _)
      | (with_reducible refine LeO.ite ?_ ?_)
      | (with_reducible refine LeO.bind ?_ (fun _ => ?_))
      | exact ih0 _ _ _
      | exact LeO.none _
      | refine LeO.ite ?_ ?_
      | refine LeO.bind ?_ (fun _ => ?_)
theorem warrenerref02_Take.mono : ∀ a0 k, LeO (warrenerref02_Take.f k a0) (warrenerref02_Take.f (k + 1) a0) := by
  intro a0 k
  have ih0 := warrenerref02_Take.mono_l k
  unfold warrenerref02_Take.f
  repeat' first
      | (with_reducible exact ih0 _ _ _)
      | (with_reducible exact LeO.refl _)
      | (with_reducible exact LeO.none _)
      | (with_reducible refine LeO.ite ?_ ?_)
      | (with_reducible refine LeO.bind ?_ (fun _ => ?_))
      | exact ih0 _ _ _
      | exact LeO.none _
      | refine LeO.ite ?_ ?_
      | refine LeO.bind ?_ (fun _ => ?_)
set_option maxHeartbeats 8000000 in
set_option maxRecDepth 100000 in
theorem warrenerref02_Take.calls (k : Nat) (A0 : Option Addr) (c0 : Nat) (l0 : List Int) (r : Int) (w : World) (hr0 : Kd.C (Kd.int .u8) w A0 l0.length l0) (hc0 : l0.length ≤ c0) (h : warrenerref02_Take.f k l0 = some r) :
    Calls Try.prog 17 #[.slice A0 l0.length c0] w fun e w' => e = .returned (.int .i64 r) ∧ Drawn0 w w' := by
  have HR0 := Aside0.mk hr0
  have HC0 := Aside0.mk hc0
  clear hr0 hc0
  have H : (warrenerref02_Take.l0 k l0 0 0) = some r := h
  clear h
  have H' := Aside0.mk H
  clear H
  go_enter Try.func17, Try.ntmps17
  go_wp2
  go_loopg [3, 4] k (fun kq v3 v4 w' => ∃ (x3_1 : Int) (x4_1 : Int), v3 = .int .u64 x3_1 ∧ v4 = .int .i64 x4_1 ∧ Aside0 (warrenerref02_Take.l0 kq l0 x3_1 x4_1 = some r) ∧ Aside0 (kq ≤ k) ∧ Drawn0 w w')
  case atStart => exact ⟨(0), (0), (by first | rfl | (simp; done) | (simp [*]; done)), (by first | rfl | (simp; done) | (simp [*]; done)), H', ⟨Nat.le_refl _⟩, by repeat (first | exact Drawn0.refl _ | apply Drawn0.step)⟩
  case round =>
    clear H'
    try clear c1
    obtain ⟨x3_1, x4_1, rfl, rfl, HA, HK1, ⟨m1, rfl⟩⟩ := hrel
    cases gk with
    | zero => exact absurd HA.out (by simp [warrenerref02_Take.l0])
    | succ k1 =>
      have H := HA.out
      clear HA
      simp only [warrenerref02_Take.l0] at H
      by_cases c2 : x4_1 < (l0.length : Int)
      · rw [if_pos c2] at H
        have c2b0 : decide (x4_1 < (l0.length : Int)) = true := decide_eq_true c2
        clear c2
        by_cases c3 : 0 ≤ x4_1
        · rw [if_pos c3] at H
          have c3b0 : decide (0 ≤ x4_1) = true := decide_eq_true c3
          clear c3
          have H' := Aside0.mk H
          clear H
          have p108 : 0 ≤ (x4_1 : Int) := of_decide_eq_true (by first | (with_reducible assumption) | assumption)
          have q108 : x4_1 < (l0.length : Int) := of_decide_eq_true (by first | (with_reducible assumption) | assumption)
          obtain ⟨ad108, e108, hx108_0⟩ := Kd.at_int HR0.out x4_1 p108 q108
          cases e108
          replace p108 := eq_true p108
          replace q108 := eq_true q108
          go_wp2
          go_roundg k1
          case measure => have := HK1.out; omega
          case rel => exact ⟨(IntKind.u64.wrap ((IntKind.u64.wrap (x3_1 * 256)) + (IntKind.u64.wrap (rd l0 x4_1)))), (wrap64 (x4_1 + 1)), (by first | rfl | (simp; done) | (simp [*]; done)), (by first | rfl | (simp; done) | (simp [*]; done)), H', ⟨by have := HK1.out; omega⟩, by repeat (first | exact Drawn0.refl _ | apply Drawn0.step)⟩
        · rw [if_neg c3] at H
          exact absurd H (by simp)
      · rw [if_neg c2] at H
        have c2b0 : decide (x4_1 < (l0.length : Int)) = false := decide_eq_false c2
        clear c2
        obtain rfl := Option.some.inj H
        go_wp2
        go_ret
        exact ⟨by first | rfl | (simp; done) | (simp [*]; done), by repeat (first | exact Drawn0.refl _ | apply Drawn0.step)⟩

/-! ### warrenerref02_Signed: function 18 -/
def warrenerref02_Signed.f (k : Nat) (l0 : List Int) : Option (Int) := (warrenerref02_Take.f k l0).bind fun t109 => (if (l0.length : Int) > 0 then (if (l0.length : Int) < 8 then (if 0 < (l0.length : Int) then (if (rd l0 0) ≥ 128 then (if 0 ≤ (wrap64 (8 * (l0.length : Int))) then (some (wrap64 (t109 - (shl .i64 1 (wrap64 (8 * (l0.length : Int))))))) else (none)) else (some t109)) else (none)) else (some t109)) else (some t109))
theorem warrenerref02_Signed.mono : ∀ a0 k, LeO (warrenerref02_Signed.f k a0) (warrenerref02_Signed.f (k + 1) a0) := by
  intro a0 k
  unfold warrenerref02_Signed.f
  repeat' first
      | (with_reducible exact warrenerref02_Take.mono _ _)
      | (with_reducible exact LeO.refl _)
      | (with_reducible exact LeO.none _)
      | (with_reducible refine LeO.ite ?_ ?_)
      | (with_reducible refine LeO.bind ?_ (fun _ => ?_))
      | exact warrenerref02_Take.mono _ _
      | exact LeO.none _
      | refine LeO.ite ?_ ?_
      | refine LeO.bind ?_ (fun _ => ?_)
set_option maxHeartbeats 8000000 in
set_option maxRecDepth 100000 in
theorem warrenerref02_Signed.calls (k : Nat) (A0 : Option Addr) (c0 : Nat) (l0 : List Int) (r : Int) (w : World) (hr0 : Kd.C (Kd.int .u8) w A0 l0.length l0) (hc0 : l0.length ≤ c0) (h : warrenerref02_Signed.f k l0 = some r) :
    Calls Try.prog 18 #[.slice A0 l0.length c0] w fun e w' => e = .returned (.int .i64 r) ∧ Drawn0 w w' := by
  have HR0 := Aside0.mk hr0
  have HC0 := Aside0.mk hc0
  clear hr0 hc0
  have H : ((warrenerref02_Take.f k l0).bind fun t109 => (if (l0.length : Int) > 0 then (if (l0.length : Int) < 8 then (if 0 < (l0.length : Int) then (if (rd l0 0) ≥ 128 then (if 0 ≤ (wrap64 (8 * (l0.length : Int))) then (some (wrap64 (t109 - (shl .i64 1 (wrap64 (8 * (l0.length : Int))))))) else (none)) else (some t109)) else (none)) else (some t109)) else (some t109))) = some r := h
  clear h
  replace H := Option.bind_eq_some_iff.mp H
  obtain ⟨t109, A20, H⟩ := H
  replace H : (if (l0.length : Int) > 0 then (if (l0.length : Int) < 8 then (if 0 < (l0.length : Int) then (if (rd l0 0) ≥ 128 then (if 0 ≤ (wrap64 (8 * (l0.length : Int))) then (some (wrap64 (t109 - (shl .i64 1 (wrap64 (8 * (l0.length : Int))))))) else (none)) else (some t109)) else (none)) else (some t109)) else (some t109)) = some r := H
  have A2 := Aside0.mk A20
  clear A20
  by_cases c3 : (l0.length : Int) > 0
  · rw [if_pos c3] at H
    have c3b0 : decide (0 < (l0.length : Int)) = true := decide_eq_true c3
    have c3b1 : decide (0 < l0.length) = true := decide_eq_true (by omega)
    clear c3
    by_cases c4 : (l0.length : Int) < 8
    · rw [if_pos c4] at H
      have c4b0 : decide ((l0.length : Int) < 8) = true := decide_eq_true c4
      have c4b1 : decide (l0.length < 8) = true := decide_eq_true (by omega)
      clear c4
      by_cases c5 : 0 < (l0.length : Int)
      · rw [if_pos c5] at H
        have c5b0 : decide (0 < (l0.length : Int)) = true := decide_eq_true c5
        have c5b1 : decide (0 < l0.length) = true := decide_eq_true (by omega)
        clear c5
        by_cases c6 : (rd l0 0) ≥ 128
        · rw [if_pos c6] at H
          have c6b0 : decide (128 ≤ (rd l0 0)) = true := decide_eq_true c6
          clear c6
          obtain ⟨ji7, hji7⟩ : ∃ j_ : Int, (wrap64 (8 * (l0.length : Int))) = j_ := ⟨_, rfl⟩
          replace H : (if 0 ≤ (ji7) then (some (wrap64 (t109 - (shl .i64 1 (ji7))))) else (none)) = some r := by first | (rw [hji7] at H; exact H) | (simp only [hji7] at H ⊢; exact H)
          (try rw [hji7] at A2)
          have hji7w : (IntKind.i64.wrap (8 * (l0.length : Int))) = ji7 := (i64_w _).trans hji7
          by_cases c8 : 0 ≤ (ji7)
          · rw [if_pos c8] at H
            have c8b0 := eq_true c8
            have c8b1 : decide (0 ≤ (ji7)) = true := decide_eq_true c8
            clear c8
            obtain ⟨ji9, hji9⟩ : ∃ j_ : Int, (shl .i64 1 (ji7)) = j_ := ⟨_, rfl⟩
            replace H : (some (wrap64 (t109 - (ji9)))) = some r := by first | (rw [hji9] at H; exact H) | (simp only [hji9] at H ⊢; exact H)
            (try rw [hji9] at A2)
            have hji9_ : (IntKind.i64.wrap (1 * 2 ^ min (ji7).toNat 64)) = ji9 := hji9
            have hji9z : (ji7) ≤ 64 → (IntKind.i64.wrap (1 * 2 ^ (ji7).toNat)) = ji9 := shl_small hji9
            have hji9u : (IntKind.i64.wrap (2 ^ min (ji7).toNat 64)) = ji9 := by have h_ := hji9_; rw [Int.one_mul] at h_; exact h_
            have hji9v : (ji7) ≤ 64 → (IntKind.i64.wrap (2 ^ (ji7).toNat)) = ji9 := fun hle_ => by have h_ := hji9z hle_; rw [Int.one_mul] at h_; exact h_
            have hji9y : (wrap64 (1 * 2 ^ min (ji7).toNat 64)) = ji9 := (i64_w _).symm.trans hji9_
            have hji9x : (ji7) ≤ 64 → (wrap64 (1 * 2 ^ (ji7).toNat)) = ji9 := fun h_ => (i64_w _).symm.trans (hji9z h_)
            obtain rfl := Option.some.inj H
            go_enter Try.func18, Try.ntmps18
            go_wp2_with (first | ((with_reducible refine gate_callee (f := 17) rfl ?_); refine goesL_ (some 5) rfl rfl Try.func17 (by kernel_rfl) rfl #[.slice A0 l0.length c0] rfl (by (try simp only [List.map_toArray, List.map_cons, List.map_nil]); first | done | rfl | (simp only [List.length_drop, List.length_take]; rfl)) ?_; (with_reducible refine (warrenerref02_Take.calls k _ _ l0 t109 _ ?side1 ?side2 A2.out).mono ?_); (case side1 => repeat (first | exact HR0.out | (with_reducible refine Kd.C_alloc ?_ _) | (with_reducible refine Kd.C_drewN ?_ _) | (with_reducible refine Kd.C_drew ?_))); (case side2 => exact HC0.out); rintro e w' ⟨rfl, ⟨nd, rfl⟩⟩; refine ⟨_, rfl, ?_⟩; have p110 : 0 ≤ (0 : Int) := (by omega); have q110 : 0 < (l0.length : Int) := of_decide_eq_true (by first | (with_reducible assumption) | assumption); obtain ⟨ad110, e110, hx110_0⟩ := Kd.at_int HR0.out 0 p110 q110; cases e110; have qi110 : (0 < l0.length) = True := eq_true (by omega); (try rw [show ((0 : Int)).toNat = 0 from rfl] at hx110_0); (try rw [Addr.add_zero'] at hx110_0); replace p110 := eq_true p110; replace q110 := eq_true q110))
            go_ret
            exact ⟨by first | rfl | (simp; done) | (simp only [← hji7, ← hji9] <;> (first | rfl | simp)) | (simp [*]; done), by repeat (first | exact Drawn0.refl _ | apply Drawn0.step)⟩
          · rw [if_neg c8] at H
            exact absurd H (by simp)
        · rw [if_neg c6] at H
          have c6b0 : decide (128 ≤ (rd l0 0)) = false := decide_eq_false c6
          clear c6
          obtain rfl := Option.some.inj H
          go_enter Try.func18, Try.ntmps18
          go_wp2_with (first | ((with_reducible refine gate_callee (f := 17) rfl ?_); refine goesL_ (some 5) rfl rfl Try.func17 (by kernel_rfl) rfl #[.slice A0 l0.length c0] rfl (by (try simp only [List.map_toArray, List.map_cons, List.map_nil]); first | done | rfl | (simp only [List.length_drop, List.length_take]; rfl)) ?_; (with_reducible refine (warrenerref02_Take.calls k _ _ l0 t109 _ ?side1 ?side2 A2.out).mono ?_); (case side1 => repeat (first | exact HR0.out | (with_reducible refine Kd.C_alloc ?_ _) | (with_reducible refine Kd.C_drewN ?_ _) | (with_reducible refine Kd.C_drew ?_))); (case side2 => exact HC0.out); rintro e w' ⟨rfl, ⟨nd, rfl⟩⟩; refine ⟨_, rfl, ?_⟩; have p110 : 0 ≤ (0 : Int) := (by omega); have q110 : 0 < (l0.length : Int) := of_decide_eq_true (by first | (with_reducible assumption) | assumption); obtain ⟨ad110, e110, hx110_0⟩ := Kd.at_int HR0.out 0 p110 q110; cases e110; have qi110 : (0 < l0.length) = True := eq_true (by omega); (try rw [show ((0 : Int)).toNat = 0 from rfl] at hx110_0); (try rw [Addr.add_zero'] at hx110_0); replace p110 := eq_true p110; replace q110 := eq_true q110))
          go_ret
          exact ⟨by first | rfl | (simp; done) | (simp [*]; done), by repeat (first | exact Drawn0.refl _ | apply Drawn0.step)⟩
      · rw [if_neg c5] at H
        exact absurd H (by simp)
    · rw [if_neg c4] at H
      have c4b0 : decide ((l0.length : Int) < 8) = false := decide_eq_false c4
      have c4b1 : decide (l0.length < 8) = false := decide_eq_false (by omega)
      clear c4
      obtain rfl := Option.some.inj H
      go_enter Try.func18, Try.ntmps18
      go_wp2_with (first | ((with_reducible refine gate_callee (f := 17) rfl ?_); refine goesL_ (some 5) rfl rfl Try.func17 (by kernel_rfl) rfl #[.slice A0 l0.length c0] rfl (by (try simp only [List.map_toArray, List.map_cons, List.map_nil]); first | done | rfl | (simp only [List.length_drop, List.length_take]; rfl)) ?_; (with_reducible refine (warrenerref02_Take.calls k _ _ l0 t109 _ ?side1 ?side2 A2.out).mono ?_); (case side1 => repeat (first | exact HR0.out | (with_reducible refine Kd.C_alloc ?_ _) | (with_reducible refine Kd.C_drewN ?_ _) | (with_reducible refine Kd.C_drew ?_))); (case side2 => exact HC0.out); rintro e w' ⟨rfl, ⟨nd, rfl⟩⟩; refine ⟨_, rfl, ?_⟩))
      go_ret
      exact ⟨by first | rfl | (simp; done) | (simp [*]; done), by repeat (first | exact Drawn0.refl _ | apply Drawn0.step)⟩
  · rw [if_neg c3] at H
    have c3b0 : decide (0 < (l0.length : Int)) = false := decide_eq_false c3
    have c3b1 : decide (0 < l0.length) = false := decide_eq_false (by omega)
    clear c3
    obtain rfl := Option.some.inj H
    go_enter Try.func18, Try.ntmps18
    go_wp2_with (first | ((with_reducible refine gate_callee (f := 17) rfl ?_); refine goesL_ (some 5) rfl rfl Try.func17 (by kernel_rfl) rfl #[.slice A0 l0.length c0] rfl (by (try simp only [List.map_toArray, List.map_cons, List.map_nil]); first | done | rfl | (simp only [List.length_drop, List.length_take]; rfl)) ?_; (with_reducible refine (warrenerref02_Take.calls k _ _ l0 t109 _ ?side1 ?side2 A2.out).mono ?_); (case side1 => repeat (first | exact HR0.out | (with_reducible refine Kd.C_alloc ?_ _) | (with_reducible refine Kd.C_drewN ?_ _) | (with_reducible refine Kd.C_drew ?_))); (case side2 => exact HC0.out); rintro e w' ⟨rfl, ⟨nd, rfl⟩⟩; refine ⟨_, rfl, ?_⟩))
    go_ret
    exact ⟨by first | rfl | (simp; done) | (simp [*]; done), by repeat (first | exact Drawn0.refl _ | apply Drawn0.step)⟩

-- NOT PRINTED: function 23 (octet_Reader_Signed)

-- NOT PRINTED: function 19 (warrenerlaw02_call)

-- NOT PRINTED: function 5 (warrenerlaw02_OctetReads)

end Go.Proofs.Ythllggfimndklac.QOctetReads
