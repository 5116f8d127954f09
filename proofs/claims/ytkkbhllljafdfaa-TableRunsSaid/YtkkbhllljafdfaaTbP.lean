/- A table, as lists. No condition beside those that each theorem names. -/
import Derived.Test.YtkkbhllljafdfaaTbA
import Derived.Test.YtkkbhllljafdfaaMachE
namespace Go.Proofs.Ytkkbhllljafdfaa.Sr
open Go.RowKit Go.Proofs.YtkkbhllljafdfaaM.Mach
set_option linter.unusedVariables false
set_option linter.unusedSimpArgs false
abbrev R2 := Int × ByteArray
abbrev RW := Int × ByteArray × Bool
abbrev EN := Int × Nat × (Option Addr × Nat) × List Int
def entM (e : EN) : MapEntry := { key := .int .u64 e.1, val := .slice e.2.2.1.1 e.2.2.2.length e.2.2.1.2, born := e.2.1 }
def rowE (e : EN) : Asrt := rowA 3 1 (.slice e.2.2.1.1 e.2.2.2.length e.2.2.1.2) e.2.2.2.length (e.2.2.2.flatMap encT3)
theorem seN {a b : ByteArray} (h : a ≠ b) : Value.bool (a.toList == b.toList) = .bool false := seF fun e => h (by cases a; cases b; simp_all [Array.ext_iff, Array.toList_inj])
theorem snT {a b : ByteArray} (h : a.data.toList ≠ b.data.toList) : Value.bool (!(a.toList == b.toList)) = .bool true := by
  rw [Lib.toList_data, Lib.toList_data, beq_eq_false_iff_ne.2 h]
  rfl
theorem sne {a b : ByteArray} (h : a ≠ b) : a.data.toList ≠ b.data.toList := fun e => h (ByteArray.ext (Array.toList_inj.1 e))
theorem bun_rd {W : World} {L1 L2 : List Asrt} {e : EN} (h : (bun (L1 ++ rowE e :: L2)).holds W) : Rd W (.slice e.2.2.1.1 e.2.2.2.length e.2.2.1.2) 1 encT3 e.2.2.2 := own_rdn encT3_len rfl (bun_holds h (List.mem_append_right _ List.mem_cons_self) : (rowE e).holds W)
theorem fn_none {h : Int} : ∀ (E : List EN) (i : Nat), (∀ e ∈ E, e.1 ≠ h) → Instr.findNow (.int .u64) (.int .u64 h) (E.map entM) i = some none
  | [], _, _ => rfl
  | e :: E, i, hn => by
    have h1 : (h == e.1) = false := beq_eq_false_iff_ne.2 fun e1 => hn e List.mem_cons_self e1.symm
    simp only [List.map_cons, Instr.findNow, Instr.sameNow, entM, if_true, h1]
    exact fn_none E (i + 1) fun x hx => hn x (List.mem_cons_of_mem _ hx)
theorem fn_some {E2 : List MapEntry} {e : EN} : ∀ (E1 : List EN) (i : Nat), (∀ x ∈ E1, x.1 ≠ e.1) → Instr.findNow (.int .u64) (.int .u64 e.1) (E1.map entM ++ entM e :: E2) i = some (some (i + E1.length, (entM e).val))
  | [], i, _ => by
    simp [Instr.findNow, Instr.sameNow, entM]
  | x :: E1, i, hn => by
    have h1 : (e.1 == x.1) = false := beq_eq_false_iff_ne.2 fun e1 => hn x List.mem_cons_self e1.symm
    have h2 := fn_some (E2 := E2) (e := e) E1 (i + 1) fun y hy => hn y (List.mem_cons_of_mem _ hy)
    have h3 : Instr.sameNow (.int .u64) (.int .u64 e.1) (entM x).key = some false := by
      simp [Instr.sameNow, entM, h1]
    simp only [List.map_cons, List.cons_append, Instr.findNow, h3]
    rw [h2]
    simp only [List.length_cons]
    congr 3
    omega
theorem und_u64 (W : World) : (underlying 27).run Try.prog W = .ok (.int .u64) W := by kernel_rfl
theorem fk_none {E : List EN} {h : Int} (hn : ∀ e ∈ E, e.1 ≠ h) (W : World) : (Instr.findKey 27 (.int .u64 h) (E.map entM)).run Try.prog W = .ok none W := by
  unfold Instr.findKey
  rw [Sem.run_bind, und_u64, Result.andThen_ok, fn_none E 0 hn]
  rfl
theorem fk_some {E1 : List EN} {E2 : List MapEntry} {e : EN} (hn : ∀ x ∈ E1, x.1 ≠ e.1) (W : World) : (Instr.findKey 27 (.int .u64 e.1) (E1.map entM ++ entM e :: E2)).run Try.prog W = .ok (some (E1.length, (entM e).val)) W := by
  unfold Instr.findKey
  rw [Sem.run_bind, und_u64, Result.andThen_ok, fn_some E1 0 hn]
  simp
theorem same_key {E1 : List EN} {E2 : List MapEntry} {e : EN} {v : Value} (j : Nat) (x : Value) (h : some (E1.length, v) = some (j, x)) : Instr.sameBits 10000 ((((E1.map entM ++ entM e :: E2)[j]?).map (·.key)).getD (.int .u64 e.1)) (.int .u64 e.1) = true := by
  cases h
  rw [show E1.length = (E1.map entM).length by simp, List.getElem?_append_right (Nat.le_refl _), Nat.sub_self]
  simp [entM, Instr.sameBits]
theorem mod_at {α : Type} (f : α → α) (a : α) (Y : List α) : ∀ X : List α, (X ++ a :: Y).modify X.length f = X ++ f a :: Y
  | [] => by simp
  | x :: X => by simp [mod_at f a Y X]
theorem mu_some {E1 : List EN} {E2 : List MapEntry} {e : EN} {ck : Nat} {v : Value} (A : Option Addr) (c : Nat) (il : List Int) : muE (E1.map entM ++ entM e :: E2) ck (.int .u64 e.1) (.slice A il.length c) (some (E1.length, v)) = (E1.map entM ++ entM (e.1, e.2.1, (A, c), il) :: E2, ck) := by
  have h := mod_at (fun x : MapEntry => { x with key := .int .u64 e.1, val := .slice A il.length c }) (entM e) E2 (E1.map entM)
  rw [List.length_map] at h
  unfold muE
  simp only [h]
  rfl
def putE : List EN → Int → Nat → Int → Option Addr → Nat → List EN
  | [], h, ck, n, A, c => [(h, ck, (A, c), [n])]
  | e :: E, h, ck, n, A, c => if e.1 = h then (e.1, e.2.1, (A, c), e.2.2.2 ++ [n]) :: E else e :: putE E h ck n A c
def ckE (E : List EN) (h : Int) (ck : Nat) : Nat := if E.any (fun e => decide (e.1 = h)) then ck else ck + 1
theorem putE_none {h n : Int} {ck c : Nat} {A : Option Addr} : ∀ {E : List EN}, (∀ e ∈ E, e.1 ≠ h) → putE E h ck n A c = E ++ [(h, ck, (A, c), [n])]
  | [], _ => rfl
  | e :: E, hn => by
    unfold putE
    rw [if_neg (hn e List.mem_cons_self), putE_none fun x hx => hn x (List.mem_cons_of_mem _ hx)]
    rfl
theorem putE_some {n : Int} {ck c : Nat} {A : Option Addr} {e : EN} {E2 : List EN} : ∀ {E1 : List EN}, (∀ x ∈ E1, x.1 ≠ e.1) → putE (E1 ++ e :: E2) e.1 ck n A c = E1 ++ (e.1, e.2.1, (A, c), e.2.2.2 ++ [n]) :: E2
  | [], _ => by simp [putE]
  | x :: E1, hn => by
    show putE (x :: (E1 ++ e :: E2)) e.1 ck n A c = _
    unfold putE
    rw [if_neg (hn x List.mem_cons_self), putE_some fun y hy => hn y (List.mem_cons_of_mem _ hy)]
    rfl
theorem ckE_none {E : List EN} {h : Int} {ck : Nat} (hn : ∀ e ∈ E, e.1 ≠ h) : ckE E h ck = ck + 1 := by
  unfold ckE
  rw [if_neg]
  intro h1
  obtain ⟨e, he, h2⟩ := List.any_eq_true.1 h1
  exact hn e he (of_decide_eq_true h2)
theorem ckE_some {E1 E2 : List EN} {e : EN} {ck : Nat} : ckE (E1 ++ e :: E2) e.1 ck = ck := by
  unfold ckE
  rw [if_pos]
  simp
theorem key_split {h : Int} : ∀ (E : List EN), (∀ e ∈ E, e.1 ≠ h) ∨ ∃ E1 e E2, E = E1 ++ e :: E2 ∧ e.1 = h ∧ ∀ x ∈ E1, x.1 ≠ h
  | [] => .inl fun e he => by cases he
  | e :: E => by
    by_cases h1 : e.1 = h
    · exact .inr ⟨[], e, E, rfl, h1, fun x hx => by cases hx⟩
    · rcases key_split (h := h) E with h2 | ⟨E1, e2, E2, rfl, h2, h3⟩
      · refine .inl fun x hx => ?_
        rcases List.mem_cons.1 hx with rfl | hx
        · exact h1
        · exact h2 x hx
      · refine .inr ⟨e :: E1, e2, E2, rfl, h2, fun x hx => ?_⟩
        rcases List.mem_cons.1 hx with rfl | hx
        · exact h1
        · exact h3 x hx
structure TINV (R : List R2) (E : List EN) : Prop where
  nd : (E.map (·.1)).Nodup
  up : ∀ e ∈ E, ∀ x ∈ e.2.2.2, ∃ n : Nat, n < R.length ∧ x = (n : Int) ∧ (R[n]!).1 = e.1
  dn : ∀ n : Nat, n < R.length → ∃ e ∈ E, e.1 = (R[n]!).1 ∧ (n : Int) ∈ e.2.2.2
  ne : ∀ e ∈ E, e.2.2.2 ≠ []
  len : ∀ e ∈ E, e.2.2.2.length ≤ R.length
  dist : ∀ n m : Nat, n < R.length → m < R.length → R[n]! = R[m]! → n = m
theorem tinv_nil : TINV [] [] where
  nd := List.nodup_nil
  up := fun e he => absurd he List.not_mem_nil
  dn := fun n hn => absurd hn (Nat.not_lt_zero n)
  ne := fun e he => absurd he List.not_mem_nil
  len := fun e he => absurd he List.not_mem_nil
  dist := fun n m hn => absurd hn (Nat.not_lt_zero n)
theorem app_lt {α : Type} [Inhabited α] {R : List α} {x : α} {n : Nat} (h : n < R.length) : (R ++ [x])[n]! = R[n]! := by
  rw [getElem!_pos (R ++ [x]) n (by simp; omega), getElem!_pos R n h, List.getElem_append_left h]
theorem app_at {α : Type} [Inhabited α] {R : List α} {x : α} : (R ++ [x])[R.length]! = x := by
  rw [getElem!_pos (R ++ [x]) R.length (by simp)]
  simp
theorem tinv_put {R : List R2} {E : List EN} (hT : TINV R E) {k : Int} {s : ByteArray} (hx : ∀ n, n < R.length → R[n]! ≠ (k, s)) (ck : Nat) (A : Option Addr) (c : Nat) : TINV (R ++ [(k, s)]) (putE E k ck (R.length : Int) A c) := by
  have hd : ∀ n m : Nat, n < (R ++ [(k, s)]).length → m < (R ++ [(k, s)]).length → (R ++ [(k, s)])[n]! = (R ++ [(k, s)])[m]! → n = m := by
    intro n m hn hm e
    simp only [List.length_append, List.length_cons, List.length_nil] at hn hm
    by_cases h1 : n < R.length
    · by_cases h2 : m < R.length
      · rw [app_lt h1, app_lt h2] at e
        exact hT.dist n m h1 h2 e
      · obtain rfl : m = R.length := by omega
        rw [app_lt h1, app_at] at e
        exact absurd e (hx n h1)
    · obtain rfl : n = R.length := by omega
      by_cases h2 : m < R.length
      · rw [app_lt h2, app_at] at e
        exact absurd e.symm (hx m h2)
      · omega
  have hl : (R ++ [(k, s)]).length = R.length + 1 := by simp
  have up' : ∀ e ∈ E, ∀ x ∈ e.2.2.2, ∃ n : Nat, n < (R ++ [(k, s)]).length ∧ x = (n : Int) ∧ ((R ++ [(k, s)])[n]!).1 = e.1 := by
    intro e he x hxe
    obtain ⟨n, h1, h2, h3⟩ := hT.up e he x hxe
    exact ⟨n, by omega, h2, by rw [app_lt h1]; exact h3⟩
  rcases key_split (h := k) E with hn | ⟨E1, e, E2, rfl, rfl, hn⟩
  · rw [putE_none hn]
    refine ⟨?_, ?_, ?_, ?_, ?_, hd⟩
    · rw [List.map_append, List.nodup_append]
      refine ⟨hT.nd, by simp, fun a ha b hb => ?_⟩
      obtain ⟨e, he, rfl⟩ := List.mem_map.1 ha
      simp only [List.map_cons, List.map_nil, List.mem_singleton] at hb
      subst hb
      exact hn e he
    · intro e he x hxe
      rcases List.mem_append.1 he with he | he
      · exact up' e he x hxe
      · rw [List.mem_singleton] at he
        subst he
        rw [List.mem_singleton] at hxe
        subst hxe
        exact ⟨R.length, by omega, rfl, by rw [app_at]⟩
    · intro n h1
      by_cases h2 : n < R.length
      · obtain ⟨e, he, h3, h4⟩ := hT.dn n h2
        exact ⟨e, List.mem_append_left _ he, by rw [app_lt h2]; exact h3, h4⟩
      · obtain rfl : n = R.length := by omega
        exact ⟨_, List.mem_append_right _ (List.mem_singleton_self _), by rw [app_at], List.mem_singleton_self _⟩
    · intro e he
      rcases List.mem_append.1 he with he | he
      · exact hT.ne e he
      · rw [List.mem_singleton] at he
        subst he
        simp
    · intro e he
      rcases List.mem_append.1 he with he | he
      · have := hT.len e he
        omega
      · rw [List.mem_singleton] at he
        subst he
        simp
  · rw [putE_some hn]
    have hs : ∀ x ∈ E1 ++ (e.1, e.2.1, (A, c), e.2.2.2 ++ [(R.length : Int)]) :: E2, x = (e.1, e.2.1, (A, c), e.2.2.2 ++ [(R.length : Int)]) ∨ x ∈ E1 ++ e :: E2 := by
      intro x hx
      rcases List.mem_append.1 hx with h1 | h1
      · exact .inr (List.mem_append_left _ h1)
      · rcases List.mem_cons.1 h1 with h1 | h1
        · exact .inl h1
        · exact .inr (List.mem_append_right _ (List.mem_cons_of_mem _ h1))
    have hm : e ∈ E1 ++ e :: E2 := List.mem_append_right _ List.mem_cons_self
    have hm' : (e.1, e.2.1, (A, c), e.2.2.2 ++ [(R.length : Int)]) ∈ E1 ++ (e.1, e.2.1, (A, c), e.2.2.2 ++ [(R.length : Int)]) :: E2 := List.mem_append_right _ List.mem_cons_self
    refine ⟨?_, ?_, ?_, ?_, ?_, hd⟩
    · have := hT.nd
      simpa [List.map_append] using this
    · intro x hx y hy
      rcases hs x hx with rfl | hx
      · rcases List.mem_append.1 hy with hy | hy
        · exact up' e hm y hy
        · rw [List.mem_singleton] at hy
          subst hy
          exact ⟨R.length, by omega, rfl, by rw [app_at]⟩
      · exact up' x hx y hy
    · intro n h1
      by_cases h2 : n < R.length
      · obtain ⟨x, hx, h3, h4⟩ := hT.dn n h2
        rw [app_lt h2]
        rcases List.mem_append.1 hx with h5 | h5
        · exact ⟨x, List.mem_append_left _ h5, h3, h4⟩
        · rcases List.mem_cons.1 h5 with rfl | h5
          · exact ⟨_, hm', h3, List.mem_append_left _ h4⟩
          · exact ⟨x, List.mem_append_right _ (List.mem_cons_of_mem _ h5), h3, h4⟩
      · obtain rfl : n = R.length := by omega
        exact ⟨_, hm', by rw [app_at], List.mem_append_right _ (List.mem_singleton_self _)⟩
    · intro x hx
      rcases hs x hx with rfl | hx
      · simp
      · exact hT.ne x hx
    · intro x hx
      rcases hs x hx with rfl | hx
      · have := hT.len e hm
        simp only [List.length_append, List.length_cons, List.length_nil]
        omega
      · have := hT.len x hx
        omega
def ixR (R : List R2) (k : Int) (s : ByteArray) : Nat := R.findIdx fun x => decide (x = (k, s))
theorem ix_le (R : List R2) (k : Int) (s : ByteArray) : ixR R k s ≤ R.length := List.findIdx_le_length
theorem ix_at {R : List R2} {k : Int} {s : ByteArray} (h : ixR R k s < R.length) : R[ixR R k s]! = (k, s) := by
  rw [getElem!_pos R _ h]
  have := List.findIdx_getElem (p := fun x => decide (x = (k, s))) (xs := R) (w := h)
  exact of_decide_eq_true this
theorem ix_lt {R : List R2} {k : Int} {s : ByteArray} {n : Nat} (hn : n < R.length) (e : R[n]! = (k, s)) : ixR R k s < R.length := by
  unfold ixR
  rw [List.findIdx_lt_length]
  rw [getElem!_pos R n hn] at e
  exact ⟨R[n], List.getElem_mem hn, decide_eq_true e⟩
theorem ix_no {R : List R2} {k : Int} {s : ByteArray} (h : ∀ n, n < R.length → R[n]! ≠ (k, s)) : ixR R k s = R.length := by
  have h1 := ix_le R k s
  by_cases h2 : ixR R k s < R.length
  · exact absurd (ix_at h2) (h _ h2)
  · omega
theorem ix_nno {R : List R2} {k : Int} {s : ByteArray} (h : ¬ ixR R k s < R.length) : ∀ n, n < R.length → R[n]! ≠ (k, s) := fun _ hn e => h (ix_lt hn e)
theorem ix_first {R : List R2} {k : Int} {s : ByteArray} {n : Nat} (hn : n < R.length) (e : R[n]! = (k, s)) (hp : ∀ m, m < n → R[m]! ≠ (k, s)) : ixR R k s = n := by
  have h1 := ix_lt hn e
  unfold ixR at h1 ⊢
  rw [List.findIdx_eq hn]
  rw [getElem!_pos R n hn] at e
  refine ⟨decide_eq_true e, fun j hj => decide_eq_false fun e2 => hp j hj ?_⟩
  rw [getElem!_pos R j (by omega)]
  exact e2
def fI (R : List R2) (k : Int) (s : ByteArray) : Int := if ixR R k s < R.length then (ixR R k s : Int) else 0
def fB (R : List R2) (k : Int) (s : ByteArray) : Bool := decide (ixR R k s < R.length)
theorem f_yes {R : List R2} {E : List EN} (hT : TINV R E) {k : Int} {s : ByteArray} {n : Nat} (hn : n < R.length) (h1 : (R[n]!).1 = k) (h2 : (R[n]!).2 = s) : fI R k s = (n : Int) ∧ fB R k s = true := by
  have e : R[n]! = (k, s) := Prod.ext h1 h2
  have h3 := ix_lt hn e
  have h4 : ixR R k s = n := hT.dist _ _ h3 hn (by rw [ix_at h3, e])
  unfold fI fB
  rw [if_pos h3, h4]
  exact ⟨rfl, decide_eq_true hn⟩
theorem f_no {R : List R2} {k : Int} {s : ByteArray} (h : ∀ n, n < R.length → R[n]! ≠ (k, s)) : fI R k s = 0 ∧ fB R k s = false := by
  unfold fI fB
  rw [ix_no h, if_neg (Nat.lt_irrefl _)]
  exact ⟨rfl, decide_eq_false (Nat.lt_irrefl _)⟩
theorem f_no0 {R : List R2} {E : List EN} (hT : TINV R E) {k : Int} {s : ByteArray} (hn : ∀ e ∈ E, e.1 ≠ k) : fI R k s = 0 ∧ fB R k s = false := by
  refine f_no fun n h1 e => ?_
  obtain ⟨x, hx, h2, _⟩ := hT.dn n h1
  exact hn x hx (by rw [h2, e])
theorem nd_one : ∀ {E : List EN}, (E.map (·.1)).Nodup → ∀ {x y : EN}, x ∈ E → y ∈ E → x.1 = y.1 → x = y
  | e :: E, hn, x, y, hx, hy, h => by
    rw [List.map_cons, List.nodup_cons] at hn
    rcases List.mem_cons.1 hx with h1 | hx <;> rcases List.mem_cons.1 hy with h2 | hy
    · rw [h1, h2]
    · exact absurd (List.mem_map.2 ⟨y, hy, by rw [← h, h1]⟩) hn.1
    · exact absurd (List.mem_map.2 ⟨x, hx, by rw [h, h2]⟩) hn.1
    · exact nd_one hn.2 hx hy h
theorem f_no1 {R : List R2} {E : List EN} {e : EN} (hT : TINV R E) (hm : e ∈ E) {s : ByteArray} (hall : ∀ j, j < e.2.2.2.length → ∀ n : Nat, n < R.length → e.2.2.2[j]! = (n : Int) → (R[n]!).2 ≠ s) : fI R e.1 s = 0 ∧ fB R e.1 s = false := by
  refine f_no fun n h1 e1 => ?_
  obtain ⟨x, hx, h2, h3⟩ := hT.dn n h1
  obtain rfl := nd_one hT.nd hx hm (by rw [h2, e1])
  obtain ⟨j, hj, h4⟩ := List.getElem_of_mem h3
  exact hall j hj n h1 (by rw [getElem!_pos _ j hj]; exact h4) (by rw [e1])
theorem key_iff {R : List R2} {E : List EN} (hT : TINV R E) {k : Int} : (∃ n, n < R.length ∧ (R[n]!).1 = k) ↔ ∃ e ∈ E, e.1 = k := by
  constructor
  · rintro ⟨n, h1, h2⟩
    obtain ⟨e, he, h3, _⟩ := hT.dn n h1
    exact ⟨e, he, h3.trans h2⟩
  · rintro ⟨e, he, rfl⟩
    have hne := hT.ne e he
    obtain ⟨x, hx⟩ := List.exists_mem_of_ne_nil _ hne
    obtain ⟨n, h1, _, h3⟩ := hT.up e he x hx
    exact ⟨n, h1, h3⟩
def pr (x : RW) : R2 := (x.1, x.2.1)
theorem pr_at {wl : List RW} {n : Nat} (h : n < wl.length) : (wl.map pr)[n]! = ((wl[n]!).1, (wl[n]!).2.1) := by
  rw [getElem!_pos (wl.map pr) n (by rw [List.length_map]; exact h), getElem!_pos wl n h, List.getElem_map]
  rfl
def plc (wl : List RW) (ky : Int) (sx : ByteArray) : Int := if ixR (wl.map pr) ky sx < wl.length then (ixR (wl.map pr) ky sx : Int) else -1
theorem plc_at {wl : List RW} {ky : Int} {sx : ByteArray} {i : Nat} (hi : i < wl.length) (hk : (wl[i]!).1 = ky) (hs : (wl[i]!).2.1 = sx) (hall : ∀ m, m < i → (wl.map pr)[m]! ≠ (ky, sx)) : plc wl ky sx = (i : Int) := by
  have h1 : ixR (wl.map pr) ky sx = i := ix_first (by rw [List.length_map]; exact hi) (by rw [pr_at hi, hk, hs]) hall
  unfold plc
  rw [h1, if_pos hi]
theorem plc_no {wl : List RW} {ky : Int} {sx : ByteArray} (hall : ∀ m, m < wl.length → (wl.map pr)[m]! ≠ (ky, sx)) : plc wl ky sx = -1 := by
  have h1 : ixR (wl.map pr) ky sx = (wl.map pr).length := ix_no fun n hn => hall n (by rw [List.length_map] at hn; exact hn)
  rw [List.length_map] at h1
  unfold plc
  rw [h1, if_neg (Nat.lt_irrefl _)]
theorem plc_y {rs : List R2} {wl : List RW} {ky : Int} {sx : ByteArray} (hrw : rs = wl.map pr) (h : ixR rs ky sx < rs.length) : plc wl ky sx = ((ixR rs ky sx : Nat) : Int) := by
  subst hrw
  unfold plc
  rw [List.length_map] at h
  rw [if_pos h]
theorem plc_n {rs : List R2} {wl : List RW} {ky : Int} {sx : ByteArray} (hrw : rs = wl.map pr) (h : ¬ ixR rs ky sx < rs.length) : plc wl ky sx = -1 := by
  subst hrw
  unfold plc
  rw [List.length_map] at h
  rw [if_neg h]
def undB (wl : List RW) (ky : Int) : Bool := wl.any fun x => decide (x.1 = ky)
theorem und_at {wl : List RW} {ky : Int} {i : Nat} (hi : i < wl.length) (hk : (wl[i]!).1 = ky) : undB wl ky = true := by
  unfold undB
  rw [List.any_eq_true]
  rw [getElem!_pos wl i hi] at hk
  exact ⟨wl[i], List.getElem_mem hi, decide_eq_true hk⟩
theorem und_no {wl : List RW} {ky : Int} (hall : ∀ m, m < wl.length → (wl[m]!).1 ≠ ky) : undB wl ky = false := by
  unfold undB
  rw [List.any_eq_false]
  intro x hx h
  obtain ⟨j, hj, rfl⟩ := List.getElem_of_mem hx
  have := hall j hj
  rw [getElem!_pos wl j hj] at this
  exact this (of_decide_eq_true h)
theorem und_y {rs : List R2} {wl : List RW} {ky : Int} (hrw : rs = wl.map pr) (hu : ∃ n, n < rs.length ∧ (rs[n]!).1 = ky) : undB wl ky = true := by
  obtain ⟨n, hn, h⟩ := hu
  subst hrw
  rw [List.length_map] at hn
  rw [pr_at hn] at h
  exact und_at hn h
theorem und_n {rs : List R2} {wl : List RW} {ky : Int} (hrw : rs = wl.map pr) (hu : ¬ ∃ n, n < rs.length ∧ (rs[n]!).1 = ky) : undB wl ky = false := by
  subst hrw
  refine und_no fun m hm h => hu ⟨m, by rw [List.length_map]; exact hm, ?_⟩
  rw [pr_at hm]
  exact h
theorem pmF {P : Program} {Q : Exit → Act → World → Prop} {F F' : List Asrt} {s : St} (L : List Blk) (ix : List Nat) (hn : ix.Nodup) (e : ix.map (fun i => (L.map blkA ++ F)[i]?) = (L.map blkA ++ F').map some) (h : Go P Q F' s) (hL : s.L = L := by kernel_rfl) : Go P Q F s := by
  intro W hW
  refine h W ?_
  subst hL
  exact HoldR.ix hW ix hn e
def encT29 (x : Int × ByteArray × Bool) : List Value := [.int .u64 x.1, .string x.2.1, .bool x.2.2]
theorem encT29_len (x : Int × ByteArray × Bool) : (encT29 x).length = 3 := rfl
theorem encT29_cell (x : Int × ByteArray × Bool) : ∀ u ∈ encT29 x, cellV u = true := by
  intro u hu
  simp only [encT29, List.mem_cons, List.not_mem_nil, or_false] at hu
  rcases hu with rfl | rfl | rfl <;> rfl
end Go.Proofs.Ytkkbhllljafdfaa.Sr
