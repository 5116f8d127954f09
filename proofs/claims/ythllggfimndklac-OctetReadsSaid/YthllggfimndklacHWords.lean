/- Words of this session's own, no program in sight: an append as one step of a region that draws its order, in whatever world; a block of one's own that is no row of another. No condition. -/
import Derived.Test.YthllggfimndklacWWords
import Derived.Test.YthllggfimndklacWLast
import Derived.Test.YthllggfimndklacWMore
import Derived.Test.YthllggfimndklacWArr
import Derived.SizedLaws
import Derived.Deep.RegionHeld3
import Derived.WalkSpells
import Derived.WalkLawsBesides
import Derived.ChangeSlices
set_option linter.unusedVariables false
set_option linter.unusedSimpArgs false
namespace Go.Proofs.YthllggfimndklacW.HWords
open Go.RowKit Go.Proofs.YthllggfimndklacW.PrintWords Go.Proofs.YthllggfimndklacW.PrintLast
section
variable {P : Program} {ops : Array Oper} {o : Oper} {a : Act} {Q : Exit → Act → World → Prop} {K : Act → World → Prop} {α : Type}
/-- append(v, x) where it may come up, x's cells at ad; E: whatever stands behind the other way. -/
theorem R_append_any (d : Kd α) {w0 W : World} {E : Prop} (base : Nat) (hg0 : o.guard = none) (s x : Operand) (t e : TypeId) (z : Value) (bytes : Nat)
    (ho : o.op = .call { callee := .builtin .append, args := #[s, x], argTypes := #[t, t] })
    (ht : P.underlying t = some (.slice e)) (hinfo : (P.info? e).map (fun i => (i.zero, i.size, i.bytes)) = some (some z, d.sz, bytes)) (hz : z.cells.size = d.sz) (hs0 : 0 < d.sz) (hb0 : 0 < bytes)
    (v : Value) (xs : List α) (p : α) (cs : List Value) (ok okp : Nat → Prop) (hs : a.eval s = v) (ad : Addr) (hx : a.eval x = .slice (some ad) 1 1) (hp : d.M W base okp p cs) (hokp : ∀ k, okp k → ok k ∧ some k ≠ v.ownBlock) (hfresh : ∀ k, W.heap.size ≤ k → ok k)
    (hcell : ∀ j u, cs[j]? = some u → W.cell? (ad.add j) = some u)
    (HO : d.R e W base ok v xs) (HB : Below base w0 W) (hbase : base ≤ W.heap.size) (hl : (xs.length + 1) * bytes ≤ 140737488355328)
    (h : ∀ v1 w1, d.R e w1 base ok v1 (xs ++ [p]) → Below base w0 w1 → W.grownBy w1 v.ownBlock → (v1.ownBlock = v.ownBlock ∨ ∃ b, v1.ownBlock = some b ∧ W.heap.size ≤ b) → K (a.put o.dst v1) w1) :
    if Region.wanted o (yielded ops a.tmps) = true then Oper.wp P o a W K Q else E := by
  have hw : Region.wanted o (yielded ops a.tmps) = true := by simp [Region.wanted, hg0]
  rw [if_pos hw]
  obtain ⟨h0, inner, hown, hr⟩ := HO
  obtain ⟨i0, hi, hzz⟩ := Option.map_eq_some_iff.1 hinfo
  simp only [Prod.mk.injEq] at hzz
  obtain ⟨hz0, hz1, hz2⟩ := hzz
  have hlen : xs.length + 1 ≤ 140737488355328 := Nat.le_trans (Nat.le_mul_of_pos_right _ hb0) hl
  obtain ⟨v1, w1, hrun, hown1, hg1, _, hat⟩ := run_append_own_at (P := P) W base t o.type e i0 z d.sz bytes ht hi hz0 hz1 hz2 hz hs0 v xs.length inner hown ad 1 1 cs (by rw [d.K_len (d.K_of_M hp), Nat.one_mul]) hcell (d.K_one (d.K_of_M hp)) (by simp only [maxLen]; omega) hl hbase
  unfold Oper.wp execOp
  simp only [ho, resolve, invoke, builtin, Sem.run_bind, Sem.run_pure, Result.andThen_ok, List.map_toArray, List.map_cons, List.map_nil, hs, hx, hrun]
  have hat' : v1.ownBlock = v.ownBlock ∨ ∃ b, v1.ownBlock = some b ∧ W.heap.size ≤ b := by
    rcases hat with hat | hat
    · exact .inl hat
    · exact .inr ⟨_, hat, Nat.le_refl _⟩
  exact h v1 w1 (Kd.R_appended h0 hr hp hokp hfresh hown1 hg1 hat') (HB.grown hg1 hbase (own_base hown)) hg1 hat'
end
/-- The same for a plain region's list. -/
theorem R_append_list {P : Program} {ops : Array Oper} {rest : List Oper} {o : Oper} {a : Act} {Q : Exit → Act → World → Prop} {α : Type} (d : Kd α) {w0 W : World} (base : Nat) (hg0 : o.guard = none) (s x : Operand) (t e : TypeId) (z : Value) (bytes : Nat)
    (ho : o.op = .call { callee := .builtin .append, args := #[s, x], argTypes := #[t, t] })
    (ht : P.underlying t = some (.slice e)) (hinfo : (P.info? e).map (fun i => (i.zero, i.size, i.bytes)) = some (some z, d.sz, bytes)) (hz : z.cells.size = d.sz) (hs0 : 0 < d.sz) (hb0 : 0 < bytes)
    (v : Value) (xs : List α) (p : α) (cs : List Value) (ok okp : Nat → Prop) (hs : a.eval s = v) (ad : Addr) (hx : a.eval x = .slice (some ad) 1 1) (hp : d.M W base okp p cs) (hokp : ∀ k, okp k → ok k ∧ some k ≠ v.ownBlock) (hfresh : ∀ k, W.heap.size ≤ k → ok k)
    (hcell : ∀ j u, cs[j]? = some u → W.cell? (ad.add j) = some u)
    (HO : d.R e W base ok v xs) (HB : Below base w0 W) (hbase : base ≤ W.heap.size) (hl : (xs.length + 1) * bytes ≤ 140737488355328)
    (h : ∀ v1 w1, d.R e w1 base ok v1 (xs ++ [p]) → Below base w0 w1 → W.grownBy w1 v.ownBlock → (v1.ownBlock = v.ownBlock ∨ ∃ b, v1.ownBlock = some b ∧ W.heap.size ≤ b) → wpList P ops Q rest (a.put o.dst v1) w1) :
    wpList P ops Q (o :: rest) a W := by
  refine wpList_plain hg0 fun K hK => ?_
  have hw : Region.wanted o (yielded ops a.tmps) = true := by simp [Region.wanted, hg0]
  have := R_append_any (ops := ops) (K := K) (Q := Q) (E := True) d (w0 := w0) base hg0 s x t e z bytes ho ht hinfo hz hs0 hb0 v xs p cs ok okp hs ad hx hp hokp hfresh hcell HO HB hbase hl (fun v1 w1 a1 a2 a3 a4 => hK _ _ (h v1 w1 a1 a2 a3 a4))
  rwa [if_pos hw] at this
/-- The cells of a block of one's own, at whatever place. -/
theorem cells_new (W : World) (cs : List Value) (e : TypeId) : ∀ j u, cs[j]? = some u → (W.alloc (.cells cs.toArray e)).cell? ((⟨W.heap.size, 0, none⟩ : Addr).add j) = some u := by
  intro j u h
  rw [add_plain, blk_cell (blk_new W (.cells cs.toArray e)) j]
  simpa using h
theorem cells_new_drew (W : World) (cs : List Value) (e : TypeId) (n : Nat) : ∀ j u, cs[j]? = some u → ((W.alloc (.cells cs.toArray e)).drewN n).cell? ((⟨W.heap.size, 0, none⟩ : Addr).add j) = some u := cells_new W cs e
theorem cells_new_drew1 (W : World) (cs : List Value) (e : TypeId) : ∀ j u, cs[j]? = some u → ((W.alloc (.cells cs.toArray e)).drew).cell? ((⟨W.heap.size, 0, none⟩ : Addr).add j) = some u := cells_new W cs e
end Go.Proofs.YthllggfimndklacW.HWords
namespace Go.Proofs.YthllggfimndklacW.HWords
open Go.RowKit Go.Proofs.YthllggfimndklacW.PrintWords Go.Proofs.YthllggfimndklacW.PrintLast
/-! Two rows whose values lie in one block B: one is appended to and stored back. -/
def okb (B : Nat) (u : Value) (k : Nat) : Prop := k ≠ B ∧ some k ≠ u.ownBlock
section
variable {α : Type} {d : Kd α} {e T base B : Nat} {W1 w9 : World} {u v v9 : Value} {xs ys zs : List α}
theorem okb_fresh (H : d.R e W1 base (okb B v) u xs) (hB : B < W1.heap.size) : ∀ k, W1.heap.size ≤ k → okb B u k := by
  intro k hk
  refine ⟨by omega, fun h => ?_⟩
  obtain ⟨inner, ho⟩ := Kd.R_own H
  have := own_lt ho k h.symm
  omega
theorem two_rows (H0 : d.R e W1 base (okb B v) u xs) (ho : d.R e w9 base (okb B u) v9 ys) (hg : W1.grownBy w9 v.ownBlock)
    (hat : v9.ownBlock = v.ownBlock ∨ ∃ b, v9.ownBlock = some b ∧ W1.heap.size ≤ b) (i : Nat) :
    d.R e (w9.setCell ⟨B, i, none⟩ v9) base (okb B v9) u xs ∧ d.R e (w9.setCell ⟨B, i, none⟩ v9) base (okb B u) v9 ys := by
  refine ⟨?_, Kd.R_far ho (fun k hk => hk.1) _⟩
  have h1 := Kd.R_grown (Kd.R_bound H0) hg (fun k hk => hk.1.2)
  have h2 : d.R e w9 base (okb B v9) u xs := by
    refine Kd.R_mono h1 fun k hk => ⟨hk.1.1, ?_⟩
    rcases hat with hat | ⟨b, hb, hle⟩
    · rw [hat]; exact hk.1.2
    · rw [hb]
      intro h
      injection h with h
      have := hk.2.2.1
      omega
  exact Kd.R_far h2 (fun k hk => hk.1) _
theorem R_form (H : d.R e W1 base (okb B u) v xs) : ∃ A n c, v = .slice A n c := by
  obtain ⟨A, c, h⟩ := Kd.R_slice H
  exact ⟨A, _, c, h⟩
theorem below_far {B : Nat} {w W : World} {p : Addr} (h : Below B w W) (hp : B ≤ p.block) (u : Value) : Below B w (W.setCell p u) := h.setCell hp u
theorem two_blk {cs : Array Value} (hblk : W1.heap[B]? = some (.cells cs T (0, 0))) (H1 : d.R e W1 base (okb B u) v xs) (hT : e ≠ T) (hg : W1.grownBy w9 v.ownBlock) : w9.heap[B]? = some (.cells cs T (0, 0)) :=
  blk_grown hblk hg (Kd.R_ne H1 hblk hT)
end
end Go.Proofs.YthllggfimndklacW.HWords
/-! An argument's data read by a kind: Opens P T d G: whatever is read of type T is of kind d, and G holds of it. -/
namespace Go.Proofs.YthllggfimndklacW.HWords
open Go.RowKit Go.Proofs.YthllggfimndklacW.PrintWords Go.Proofs.YthllggfimndklacW.PrintLast
structure Opens {α : Type} (P : Program) (T : TypeId) (d : Kd α) (G : α → Prop) : Prop where
  sz : P.cellsOf T = d.sz
  op : ∀ {H : Type} {enc : TypeId × Value → H} {w : World} {base : Nat} {spare : Nat → Bool} {held : Bool} {fuel : Nat} {cs : List Value} {x : DataW H × List MemPlace},
    DataW.trod enc P w base spare held fuel T cs = some x → (∀ n ∈ x.1.weights P T, n ≤ reachBytes) → ∃ y, d.K w y cs ∧ G y
theorem Opens.mono {α : Type} {P : Program} {T : TypeId} {d : Kd α} {G G' : α → Prop} (h : Opens P T d G) (hg : ∀ y, G y → G' y) : Opens P T d G' :=
  ⟨h.sz, fun a b => let ⟨y, h1, h2⟩ := h.op a b; ⟨y, h1, hg y h2⟩⟩
theorem Opens.int {P : Program} {T : TypeId} {k : IntKind} (hu : P.underlying T = some (.int k)) (hc : P.cellsOf T = 1) : Opens P T (Kd.int k) (fun n => (Lit.int k n).wf = true) :=
  ⟨hc, fun h _ => by obtain ⟨n, rfl, _, hw⟩ := DataW.trod_int hu h; exact ⟨n, rfl, hw⟩⟩
theorem Opens.bool {P : Program} {T : TypeId} (hu : P.underlying T = some .bool) (hc : P.cellsOf T = 1) : Opens P T Kd.bool (fun _ => True) :=
  ⟨hc, fun h _ => by obtain ⟨n, rfl, _⟩ := DataW.trod_bool hu h; exact ⟨n, rfl, trivial⟩⟩
theorem Opens.string {P : Program} {T : TypeId} (hu : P.underlying T = some .string) (hc : P.cellsOf T = 1) : Opens P T Kd.string (fun s => s.size ≤ 140737488351232) :=
  ⟨hc, fun h hw => by
    obtain ⟨s, rfl, rfl, hs⟩ := DataW.trod_string hu h
    refine ⟨s, rfl, ?_⟩
    have := hw _ (by simp only [DataW.weights]; exact List.mem_singleton.2 rfl)
    rw [data_length] at this
    exact this⟩
theorem Opens.iso {α β : Type} {P : Program} {T : TypeId} {d : Kd α} {G : α → Prop} (h : Opens P T d G) (f : β → α) (g : α → β) (hfg : ∀ y, f (g y) = y) : Opens P T (Kd.iso d f) (fun x => G (f x)) :=
  ⟨h.sz, fun a b => by
    obtain ⟨y, h1, h2⟩ := h.op a b
    refine ⟨g y, ?_, ?_⟩
    · show d.K _ (f (g y)) _
      rw [hfg]
      exact h1
    · show G (f (g y))
      rw [hfg]
      exact h2⟩
theorem Opens.slice {α : Type} {P : Program} {T e B : Nat} {d : Kd α} {G : α → Prop} (h : Opens P e d G) (hu : P.underlying T = some (.slice e)) (hc : P.cellsOf T = 1) (hB : P.bytesOf e = B) :
    Opens P T (Kd.slice e d) (fun xs => xs.length * B ≤ 140737488351232 ∧ xs.length ≤ 9223372036854775807 ∧ ∀ x ∈ xs, G x) :=
  ⟨hc, fun {H enc w base spare held fuel cs x} hx hw => by
    subst hB
    rcases DataW.trod_slice hu hx with ⟨rfl, rfl⟩ | ⟨a, len, cap, elems, rest, n, _, rfl, rfl, hb, hl, hm, hlen, hel, _, _⟩
    · exact ⟨[], ⟨none, 0, rfl, Nat.le_refl _, rfl, by simp, fun hn => absurd hn (by simp)⟩, by simp, by simp, fun x hx => by simp at hx⟩
    · have hww : ∀ i (hi : i < len), ∃ cs' y, w.cells? base (a.add (i * P.cellsOf e)) (P.cellsOf e) = some cs' ∧ d.K w y cs' ∧ G y := by
        intro i hi
        have h1 := hel i hi
        rw [List.getElem?_eq_getElem (by omega)] at h1
        obtain ⟨cs', hcs, htr⟩ := Option.bind_eq_some_iff.1 h1
        have hwe : ∀ m ∈ (elems[i]).1.weights P e, m ≤ reachBytes := by
          intro m hm'
          refine hw m ?_
          have hmem : ∀ (l : List (DataW H)) (q : DataW H), q ∈ l → ∀ m ∈ q.weights P e, m ∈ DataW.weightsAll P e l := by
            intro l
            induction l with
            | nil => intro q hq; simp at hq
            | cons q0 r ih =>
              intro q hq m hm
              simp only [DataW.weightsAll, List.mem_append]
              rcases List.mem_cons.1 hq with rfl | hq
              · exact .inl hm
              · exact .inr (ih q hq m hm)
          have := hmem (elems.map (·.1)) (elems[i]).1 (List.mem_map.2 ⟨elems[i], List.getElem_mem _, rfl⟩) m hm'
          simp only [DataW.weights, hu, List.mem_cons, List.mem_append]
          exact .inr (.inl this)
        obtain ⟨y, hy1, hy2⟩ := h.op htr hwe
        exact ⟨cs', y, hcs, hy1, hy2⟩
      have hbuild : ∀ m, m ≤ len → ∃ ys : List α, ys.length = m ∧ ∀ j y, ys[j]? = some y → ∃ cs', w.cells? base (a.add (j * P.cellsOf e)) (P.cellsOf e) = some cs' ∧ d.K w y cs' ∧ G y := by
        intro m
        induction m with
        | zero => intro _; exact ⟨[], rfl, fun j y hj => by simp at hj⟩
        | succ m ih =>
          intro hm'
          obtain ⟨ys, hy, hys⟩ := ih (by omega)
          obtain ⟨cs', y, h1, h2, h3⟩ := hww m (by omega)
          refine ⟨ys ++ [y], by simp [hy], fun j z hj => ?_⟩
          rcases Nat.lt_or_ge j ys.length with hlt | hge
          · rw [List.getElem?_append_left hlt] at hj
            exact hys j z hj
          · have hj' : j = m := by
              have := (List.getElem?_eq_some_iff.1 hj).1
              simp at this
              omega
            subst hj'
            rw [List.getElem?_append_right hge, hy, Nat.sub_self] at hj
            have hz : y = z := by simpa using hj
            subst hz
            exact ⟨cs', h1, h2, h3⟩
      obtain ⟨ys, hy, hys⟩ := hbuild len (Nat.le_refl _)
      have hmx : len ≤ 9223372036854775807 := by simp only [maxLen] at hm; omega
      refine ⟨ys, ⟨some a, cap, by rw [hy], by omega, rfl, by omega, fun _ => ⟨a, rfl, fun j p hj => ?_⟩⟩, ?_, by omega, fun p hp => ?_⟩
      · obtain ⟨cs', h1, h2, _⟩ := hys j p hj
        refine ⟨cs', d.K_len h2, h2, fun i u hu' => ?_⟩
        obtain ⟨_, hl', hc'⟩ := World.cells?_some h1
        have hi : i < P.cellsOf e := by
          have := (List.getElem?_eq_some_iff.1 hu').1
          omega
        have h4 := hc' i hi
        rw [hu'] at h4
        rw [← h4, ← h.sz]
        congr 1
        unfold Addr.add
        by_cases h1 : j * P.cellsOf e = 0 <;> by_cases h2 : i = 0 <;> simp [h1, h2, Nat.add_assoc]
      · have hw0 := hw ((elems.length + rest.length) * P.bytesOf e) (by simp [DataW.weights, hu])
        have : ys.length * P.bytesOf e ≤ (elems.length + rest.length) * P.bytesOf e := Nat.mul_le_mul_right _ (by omega)
        simp only [reachBytes] at hw0
        omega
      · obtain ⟨j, hj⟩ := List.getElem?_of_mem hp
        obtain ⟨_, _, _, h3⟩ := hys j p hj
        exact h3⟩
/-- A struct's fields from one on. -/
structure OpensAt {α : Type} (P : Program) (fs : List Field) (off : Nat) (d : Kd α) (G : α → Prop) : Prop where
  op : ∀ {H : Type} {enc : TypeId × Value → H} {w : World} {base : Nat} {spare : Nat → Bool} {held : Bool} {n : Nat} {cs : List Value} {xs : List (DataW H × List MemPlace)},
    cs.length = off + d.sz → xs.length = fs.length → (∀ (i : Nat) (f : Field), fs[i]? = some f → DataW.trod enc P w base spare held n f.type ((cs.drop f.offset).take (P.cellsOf f.type)) = xs[i]?) →
    (∀ m ∈ DataW.weightsEach P (fs.map (·.type)) (xs.map (·.1)), m ≤ reachBytes) → ∃ y, d.K w y (cs.drop off) ∧ G y
theorem OpensAt.last {α : Type} {P : Program} {f : Field} {d : Kd α} {G : α → Prop} (h : Opens P f.type d G) : OpensAt P [f] f.offset d G :=
  ⟨fun {H enc w base spare held n cs xs} hl hx hf hw => by
    have h1 := hf 0 f rfl
    obtain ⟨x, rfl⟩ : ∃ x, xs = [x] := by
      match xs, hx with
      | [x], _ => exact ⟨x, rfl⟩
    have h2 : (cs.drop f.offset).take (P.cellsOf f.type) = cs.drop f.offset := by
      rw [List.take_of_length_le]
      rw [List.length_drop, h.sz]
      omega
    rw [h2] at h1
    exact h.op h1 (fun m hm => hw m (by simp [DataW.weightsEach, hm]))⟩
theorem OpensAt.cons {α β : Type} {P : Program} {f : Field} {fs : List Field} {a : Kd α} {b : Kd β} {Ga : α → Prop} {Gb : β → Prop} (h : Opens P f.type a Ga) (hr : OpensAt P fs (f.offset + a.sz) b Gb) :
    OpensAt P (f :: fs) f.offset (Kd.pair a b) (fun x => Ga x.1 ∧ Gb x.2) :=
  ⟨fun {H enc w base spare held n cs xs} hl hx hf hw => by
    obtain ⟨x, r, rfl⟩ : ∃ x r, xs = x :: r := by
      match xs, hx with
      | x :: r, _ => exact ⟨x, r, rfl⟩
    have h1 := hf 0 f rfl
    have h3 : DataW.trod enc P w base spare held n f.type ((cs.drop f.offset).take (P.cellsOf f.type)) = some x := h1
    obtain ⟨y, hy, gy⟩ := h.op h3 (fun m hm => hw m (by simp [DataW.weightsEach, hm]))
    have hsz : (Kd.pair a b).sz = a.sz + b.sz := rfl
    obtain ⟨z, hz, gz⟩ := hr.op (enc := enc) (w := w) (base := base) (spare := spare) (held := held) (n := n) (cs := cs) (xs := r) (by omega) (by simpa using hx) (fun i g hg => hf (i + 1) g hg) (fun m hm => hw m (by simp [DataW.weightsEach, hm]))
    refine ⟨(y, z), ⟨_, _, ?_, hy, hz⟩, gy, gz⟩
    rw [h.sz]
    rw [← List.drop_drop]
    exact (List.take_append_drop _ _).symm⟩
theorem Opens.struct {α : Type} {P : Program} {T : TypeId} {fs : Array Field} {d : Kd α} {G : α → Prop} (hu : P.underlying T = some (.struct fs)) (hsz : P.cellsOf T = d.sz) (h : OpensAt P fs.toList 0 d G) : Opens P T d G :=
  ⟨hsz, fun {H enc w base spare held fuel cs x} hx hw => by
    obtain ⟨xs, n, _, rfl, hl, hn, hf⟩ := DataW.trod_struct hu hx
    have := h.op (enc := enc) (w := w) (base := base) (spare := spare) (held := held) (n := n) (cs := cs) (xs := xs) (by omega) (by simpa using hn) (fun i f hi => hf i f (by simpa using hi)) (fun m hm => hw m (by simpa [DataW.weights, hu] using hm))
    simpa using this⟩
theorem agg_eq {cs : Array Value} {l : List Value} (h : (Value.agg cs).cells.toList = l) : cs = l.toArray := by
  subst h
  simp [Value.cells]
/-- An argument of a row. -/
theorem opened {α : Type} {P : Program} {T : TypeId} {d : Kd α} {G : α → Prop} (h : Opens P T d G) {H : Type} {enc : TypeId × Value → H} {w : World} {base : Nat} {spare : Nat → Bool} {held : Bool} {v : Value} {x : DataW H} {ps : List MemPlace} {ts : List TypeId} {ds : List (DataW H)} {j : Nat}
    (hsz : (DataW.weightsEach P ts ds).all (· ≤ reachBytes) = true) (ht : ts[j]? = some T) (hd : ds[j]? = some x) (hT : DataW.Trod enc P w base spare held T v x ps) : ∃ y, d.K w y v.cells.toList ∧ G y := by
  obtain ⟨fuel, hf⟩ := hT
  exact h.op hf (fun n hn => by simpa using List.all_eq_true.1 hsz _ (DataW.weights_mem_each ht hd n hn))
end Go.Proofs.YthllggfimndklacW.HWords

/-! Kinds without rows inside; an empty literal. -/
namespace Go.Proofs.YthllggfimndklacW.HWords
open Go.RowKit Go.Proofs.YthllggfimndklacW.PrintWords Go.Proofs.YthllggfimndklacW.PrintLast
structure Flat {α : Type} (d : Kd α) : Prop where
  up : ∀ {W W' : World} {base : Nat} {ok : Nat → Prop} {x : α} {cs : List Value}, d.K W x cs → d.M W' base ok x cs
theorem Flat.scalar {α : Type} (enc : α → Value) (h1 : ∀ x, (enc x).oneCell' = true) : Flat (Kd.scalar enc h1) := ⟨fun h => h⟩
theorem Flat.int (k : IntKind) : Flat (Kd.int k) := ⟨fun h => h⟩
theorem Flat.bool : Flat Kd.bool := ⟨fun h => h⟩
theorem Flat.string : Flat Kd.string := ⟨fun h => h⟩
theorem Flat.pair {α β : Type} {a : Kd α} {b : Kd β} (ha : Flat a) (hb : Flat b) : Flat (Kd.pair a b) := ⟨fun ⟨c0, c1, h, h0, h1⟩ => ⟨c0, c1, h, ha.up h0, hb.up h1⟩⟩
theorem Flat.iso {α β : Type} {d : Kd α} (h : Flat d) (f : β → α) : Flat (Kd.iso d f) := ⟨fun hk => h.up hk⟩
theorem Flat.arr {α : Type} {n : Nat} {d : Kd α} {hs : 0 < d.sz} (h : Flat d) : Flat (Kd.arr n d hs) := ⟨fun hk => ⟨hk.1, hk.2.imp_ (fun _ _ hp => h.up hp)⟩⟩
theorem R_empty {α : Type} (d : Kd α) (e : Nat) (W : World) (base : Nat) (ok : Nat → Prop) (hb : base ≤ W.heap.size) (hok : ok W.heap.size) : d.R e (W.alloc (.cells #[] e)) base ok (.slice (some ⟨W.heap.size, 0, none⟩) 0 0) [] := by
  have h := World.ownsRow_lit (base := base) (e := e) (size := d.sz) W #[] 0 hb (by simp [maxLen]) (by simp)
  refine ⟨fun k hk => ?_, [], h, Reps.none _ _⟩
  have : W.heap.size = k := by simpa [Value.ownBlock] using hk
  subst this
  exact hok
end Go.Proofs.YthllggfimndklacW.HWords
/-! Two rows whose values lie in blocks of S: one is appended to and stored back. -/
namespace Go.Proofs.YthllggfimndklacW.HWords
open Go.RowKit Go.Proofs.YthllggfimndklacW.PrintWords Go.Proofs.YthllggfimndklacW.PrintLast
def okS (S : Nat → Prop) (u : Value) (k : Nat) : Prop := ¬ S k ∧ some k ≠ u.ownBlock
section
variable {α : Type} {d : Kd α} {e base : Nat} {S : Nat → Prop} {W1 w9 : World} {u v v9 : Value} {xs ys : List α}
theorem okS_fresh (H : d.R e W1 base (okS S v) u xs) (hS : ∀ k, S k → k < W1.heap.size) : ∀ k, W1.heap.size ≤ k → okS S u k := by
  intro k hk
  refine ⟨fun h => by have := hS k h; omega, fun h => ?_⟩
  obtain ⟨inner, ho⟩ := Kd.R_own H
  have := own_lt ho k h.symm
  omega
theorem R_formS (H : d.R e W1 base (okS S u) v xs) : ∃ A n c, v = .slice A n c := by
  obtain ⟨A, c, h⟩ := Kd.R_slice H
  exact ⟨A, _, c, h⟩
theorem two_blkS {T B : Nat} {cs : Array Value} (hblk : W1.heap[B]? = some (.cells cs T (0, 0))) (H1 : d.R e W1 base (okS S u) v xs) (hT : e ≠ T) (hg : W1.grownBy w9 v.ownBlock) : w9.heap[B]? = some (.cells cs T (0, 0)) :=
  blk_grown hblk hg (Kd.R_ne H1 hblk hT)
theorem two_rowsS (H0 : d.R e W1 base (okS S v) u xs) (ho : d.R e w9 base (okS S u) v9 ys) (hg : W1.grownBy w9 v.ownBlock)
    (hat : v9.ownBlock = v.ownBlock ∨ ∃ b, v9.ownBlock = some b ∧ W1.heap.size ≤ b) (p : Addr) (hp : S p.block) :
    d.R e (w9.setCell p v9) base (okS S v9) u xs ∧ d.R e (w9.setCell p v9) base (okS S u) v9 ys := by
  refine ⟨?_, Kd.R_far ho (fun k hk => fun h => hk.1 (h ▸ hp)) _⟩
  have h1 := Kd.R_grown (Kd.R_bound H0) hg (fun k hk => hk.1.2)
  have h2 : d.R e w9 base (okS S v9) u xs := by
    refine Kd.R_mono h1 fun k hk => ⟨hk.1.1, ?_⟩
    rcases hat with hat | ⟨b, hb, hle⟩
    · rw [hat]; exact hk.1.2
    · rw [hb]
      intro h
      injection h with h
      have := hk.2.2.1
      omega
  exact Kd.R_far h2 (fun k hk => fun h => hk.1 (h ▸ hp)) _
end
end Go.Proofs.YthllggfimndklacW.HWords
