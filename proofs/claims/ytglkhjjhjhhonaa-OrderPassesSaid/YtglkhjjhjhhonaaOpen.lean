/- An argument's data, opened: cells by a coder, and what is read behind slices. No condition beside those that each theorem names. -/
import Derived.Test.YtglkhjjhjhhonaaMach
import Derived.OpenShut
import Derived.SizedLaws
import Derived.WalkSpells
import Derived.WalkLawsBesides
set_option linter.unusedVariables false
namespace Go.Proofs.YtglkhjjhjhhonaaM.Open
open Go.RowKit Go.Proofs.YtglkhjjhjhhonaaM.Mach
/-- What is read of type T has the cells enc x, for some x of which G holds. -/
structure Opn {α : Type} (P : Program) (T : TypeId) (sz : Nat) (enc : α → List Value) (G : World → α → Prop) : Prop where
  hz : P.cellsOf T = sz
  len : ∀ x, (enc x).length = sz
  op : ∀ {H : Type} {encH : TypeId × Value → H} {w : World} {base : Nat} {spare : Nat → Bool} {held : Bool} {fuel : Nat} {cs : List Value} {x : DataW H × List MemPlace},
    DataW.trod encH P w base spare held fuel T cs = some x → (∀ n ∈ x.1.weights P T, n ≤ reachBytes) → ∃ y, cs = enc y ∧ G w y
def eI (k : IntKind) (n : Int) : List Value := [.int k n]
def eB (b : Bool) : List Value := [.bool b]
def eV (y : Option Addr × Nat × Nat) : List Value := [.slice y.1 y.2.1 y.2.2]
def eP {α β : Type} (a : α → List Value) (b : β → List Value) (x : α × β) : List Value := a x.1 ++ b x.2
def T1 {α : Type} (_ : World) (_ : α) : Prop := True
def gP {α β : Type} (a : World → α → Prop) (b : World → β → Prop) (w : World) (x : α × β) : Prop := a w x.1 ∧ b w x.2
def gV {α : Type} (B sz : Nat) (enc : α → List Value) (G : World → α → Prop) (w : World) (y : Option Addr × Nat × Nat) : Prop :=
  ∃ l : List α, y.2.1 = l.length ∧ Rd w (.slice y.1 l.length y.2.2) sz enc l ∧ (∀ x ∈ l, G w x) ∧ l.length * B ≤ 140737488351232 ∧ l.length ≤ 9223372036854775807
def eA {α : Type} (m : Nat) (enc : α → List Value) (f : Nat → α) : List Value := (List.range m).flatMap fun i => enc (f i)
def gA {α : Type} (m : Nat) (G : World → α → Prop) (w : World) (f : Nat → α) : Prop := ∀ i, i < m → G w (f i)
theorem Opn.int {P : Program} {T : TypeId} {k : IntKind} (hu : P.underlying T = some (.int k)) (hc : P.cellsOf T = 1) : Opn P T 1 (eI k) (fun _ n => (Lit.int k n).wf = true) :=
  ⟨hc, fun _ => rfl, fun h _ => by obtain ⟨n, rfl, _, hw⟩ := DataW.trod_int hu h; exact ⟨n, rfl, hw⟩⟩
theorem Opn.int1 {P : Program} {T : TypeId} {k : IntKind} (hu : P.underlying T = some (.int k)) (hc : P.cellsOf T = 1) : Opn P T 1 (eI k) T1 :=
  ⟨hc, fun _ => rfl, fun h _ => by obtain ⟨n, rfl, _, hw⟩ := DataW.trod_int hu h; exact ⟨n, rfl, trivial⟩⟩
theorem Opn.bool {P : Program} {T : TypeId} (hu : P.underlying T = some .bool) (hc : P.cellsOf T = 1) : Opn P T 1 eB T1 :=
  ⟨hc, fun _ => rfl, fun h _ => by obtain ⟨n, rfl, _⟩ := DataW.trod_bool hu h; exact ⟨n, rfl, trivial⟩⟩
theorem cell_spot {w : World} {a : Addr} {u : Value} (h : w.cell? a = some u) : a.spot = none ∧ a.block < w.heap.size := by
  unfold World.cell? at h
  split at h
  · rename_i c e f hb
    split at h
    · cases h
    · rename_i hs
      refine ⟨?_, (Array.getElem?_eq_some_iff.1 hb).1⟩
      cases h9 : a.spot with
      | none => rfl
      | some q => rw [h9] at hs; simp at hs
  · cases h
theorem Opn.slice {α : Type} {P : Program} {T e B sz : Nat} {enc : α → List Value} {G : World → α → Prop} (h : Opn P e sz enc G) (h0 : 0 < sz) (hu : P.underlying T = some (.slice e)) (hc : P.cellsOf T = 1) (hB : P.bytesOf e = B) :
    Opn P T 1 eV (gV B sz enc G) :=
  ⟨hc, fun _ => rfl, fun {H encH w base spare held fuel cs x} hx hw => by
    subst hB
    rcases DataW.trod_slice hu hx with ⟨rfl, rfl⟩ | ⟨a, len, cap, elems, rest, n, _, rfl, rfl, hb, hl, hm, hlen, hel, _, _⟩
    · exact ⟨(none, 0, 0), rfl, [], rfl, Rd.nil _ _ _, fun x hx => by simp at hx, by simp, by simp⟩
    · have hww : ∀ i (hi : i < len), ∃ y, w.cells? base (a.add (i * P.cellsOf e)) (P.cellsOf e) = some (enc y) ∧ G w y := by
        intro i hi
        have h1 := hel i hi
        rw [List.getElem?_eq_getElem (by omega)] at h1
        obtain ⟨cs', hcs, htr⟩ := Option.bind_eq_some_iff.1 h1
        have hwe : ∀ m ∈ (elems[i]).1.weights P e, m ≤ reachBytes := by
          intro m hm'
          refine hw m ?_
          have hmem : ∀ (l : List (DataW H)) (q : DataW H), q ∈ l → ∀ m ∈ q.weights P e, m ∈ DataW.weightsAll P e l := by
            intro l
            induction l with
            | nil => intro q hq; simp at hq
            | cons q0 r ih =>
              intro q hq m hm
              simp only [DataW.weightsAll, List.mem_append]
              rcases List.mem_cons.1 hq with rfl | hq
              · exact .inl hm
              · exact .inr (ih q hq m hm)
          have := hmem (elems.map (·.1)) (elems[i]).1 (List.mem_map.2 ⟨elems[i], List.getElem_mem _, rfl⟩) m hm'
          simp only [DataW.weights, hu, List.mem_cons, List.mem_append]
          exact .inr (.inl this)
        obtain ⟨y, rfl, hy2⟩ := h.op htr hwe
        exact ⟨y, hcs, hy2⟩
      have hbuild : ∀ m, m ≤ len → ∃ ys : List α, ys.length = m ∧ ∀ j y, ys[j]? = some y → w.cells? base (a.add (j * P.cellsOf e)) (P.cellsOf e) = some (enc y) ∧ G w y := by
        intro m
        induction m with
        | zero => intro _; exact ⟨[], rfl, fun j y hj => by simp at hj⟩
        | succ m ih =>
          intro hm'
          obtain ⟨ys, hy, hys⟩ := ih (by omega)
          obtain ⟨y, h1, h3⟩ := hww m (by omega)
          refine ⟨ys ++ [y], by simp [hy], fun j z hj => ?_⟩
          rcases Nat.lt_or_ge j ys.length with hlt | hge
          · rw [List.getElem?_append_left hlt] at hj
            exact hys j z hj
          · have hj' : j = m := by
              have := (List.getElem?_eq_some_iff.1 hj).1
              simp at this
              omega
            subst hj'
            rw [List.getElem?_append_right hge, hy, Nat.sub_self] at hj
            have hz : y = z := by simpa using hj
            subst hz
            exact ⟨h1, h3⟩
      obtain ⟨ys, hy, hys⟩ := hbuild len (Nat.le_refl _)
      have hmx : len ≤ 9223372036854775807 := by simp only [maxLen] at hm; omega
      have hcell : ∀ (i : Nat) (y : α), ys[i]? = some y → ∀ (j : Nat) (u : Value), (enc y)[j]? = some u → w.cell? ((a.add (i * P.cellsOf e)).add j) = some u := by
        intro i y hi j u hu'
        obtain ⟨h1, _⟩ := hys i y hi
        obtain ⟨_, hl', hc'⟩ := World.cells?_some h1
        have hj : j < P.cellsOf e := by
          have := (List.getElem?_eq_some_iff.1 hu').1
          omega
        have h4 := hc' j hj
        rw [hu'] at h4
        exact h4
      refine ⟨(some a, len, cap), rfl, ys, hy.symm, ⟨some a, cap, rfl, by omega, ?_⟩, fun p hp => ?_, ?_, by omega⟩
      · rcases Nat.eq_zero_or_pos ys.length with h8 | hpos
        · exact .inl (List.length_eq_zero_iff.1 h8)
        · have hy0 : (enc ys[0]).length = sz := h.len _
          have h9 := hcell 0 ys[0] (List.getElem?_eq_getElem hpos) 0 _ (List.getElem?_eq_getElem (by omega))
          have h10 : (a.add (0 * P.cellsOf e)).add 0 = a := by simp [Addr.add]
          rw [h10] at h9
          obtain ⟨hs, hlt⟩ := cell_spot h9
          obtain ⟨b, o, s⟩ := a
          have hs' : s = none := hs
          subst hs'
          refine .inr ⟨b, o, rfl, hlt, fun i y hi j u hu' => ?_⟩
          have h7 := hcell i y hi j u hu'
          rw [← h7, h.hz]
          congr 1
          unfold Addr.add
          by_cases h1 : i * sz = 0 <;> by_cases h2 : j = 0 <;> simp [h1, h2, Nat.add_assoc]
      · obtain ⟨j, hj⟩ := List.getElem?_of_mem hp
        exact (hys j p hj).2
      · have hw0 := hw ((elems.length + rest.length) * P.bytesOf e) (by simp [DataW.weights, hu])
        have : ys.length * P.bytesOf e ≤ (elems.length + rest.length) * P.bytesOf e := Nat.mul_le_mul_right _ (by omega)
        simp only [reachBytes] at hw0
        omega⟩
/-- A struct's fields from one on. -/
structure OpnAt {α : Type} (P : Program) (fs : List Field) (off : Nat) (sz : Nat) (enc : α → List Value) (G : World → α → Prop) : Prop where
  len : ∀ x, (enc x).length = sz
  op : ∀ {H : Type} {encH : TypeId × Value → H} {w : World} {base : Nat} {spare : Nat → Bool} {held : Bool} {n : Nat} {cs : List Value} {xs : List (DataW H × List MemPlace)},
    cs.length = off + sz → xs.length = fs.length → (∀ (i : Nat) (f : Field), fs[i]? = some f → DataW.trod encH P w base spare held n f.type ((cs.drop f.offset).take (P.cellsOf f.type)) = xs[i]?) →
    (∀ m ∈ DataW.weightsEach P (fs.map (·.type)) (xs.map (·.1)), m ≤ reachBytes) → ∃ y, cs.drop off = enc y ∧ G w y
theorem OpnAt.last {α : Type} {P : Program} {f : Field} {sz : Nat} {enc : α → List Value} {G : World → α → Prop} (h : Opn P f.type sz enc G) : OpnAt P [f] f.offset sz enc G :=
  ⟨h.len, fun {H encH w base spare held n cs xs} hl hx hf hw => by
    have h1 := hf 0 f rfl
    obtain ⟨x, rfl⟩ : ∃ x, xs = [x] := by
      match xs, hx with
      | [x], _ => exact ⟨x, rfl⟩
    have h2 : (cs.drop f.offset).take (P.cellsOf f.type) = cs.drop f.offset := by
      rw [List.take_of_length_le]
      rw [List.length_drop, h.hz]
      omega
    rw [h2] at h1
    exact h.op h1 (fun m hm => hw m (by simp [DataW.weightsEach, hm]))⟩
theorem OpnAt.cons {α β : Type} {P : Program} {f : Field} {fs : List Field} {sa sb : Nat} {a : α → List Value} {b : β → List Value} {Ga : World → α → Prop} {Gb : World → β → Prop} (h : Opn P f.type sa a Ga) (hr : OpnAt P fs (f.offset + sa) sb b Gb) :
    OpnAt P (f :: fs) f.offset (sa + sb) (eP a b) (gP Ga Gb) :=
  ⟨fun x => by simp only [eP, List.length_append, h.len, hr.len], fun {H encH w base spare held n cs xs} hl hx hf hw => by
    obtain ⟨x, r, rfl⟩ : ∃ x r, xs = x :: r := by
      match xs, hx with
      | x :: r, _ => exact ⟨x, r, rfl⟩
    have h1 := hf 0 f rfl
    have h3 : DataW.trod encH P w base spare held n f.type ((cs.drop f.offset).take (P.cellsOf f.type)) = some x := h1
    obtain ⟨y, hy, gy⟩ := h.op h3 (fun m hm => hw m (by simp [DataW.weightsEach, hm]))
    obtain ⟨z, hz, gz⟩ := hr.op (encH := encH) (w := w) (base := base) (spare := spare) (held := held) (n := n) (cs := cs) (xs := r) (by omega) (by simpa using hx) (fun i g hg => hf (i + 1) g hg) (fun m hm => hw m (by simp [DataW.weightsEach, hm]))
    refine ⟨(y, z), ?_, gy, gz⟩
    show cs.drop f.offset = a y ++ b z
    rw [← hy, ← hz, h.hz, ← List.drop_drop]
    exact (List.take_append_drop _ _).symm⟩
theorem Opn.struct {α : Type} {P : Program} {T : TypeId} {fs : Array Field} {sz : Nat} {enc : α → List Value} {G : World → α → Prop} (hu : P.underlying T = some (.struct fs)) (hsz : P.cellsOf T = sz) (h : OpnAt P fs.toList 0 sz enc G) : Opn P T sz enc G :=
  ⟨hsz, h.len, fun {H encH w base spare held fuel cs x} hx hw => by
    obtain ⟨xs, n, _, rfl, hl, hn, hf⟩ := DataW.trod_struct hu hx
    have := h.op (encH := encH) (w := w) (base := base) (spare := spare) (held := held) (n := n) (cs := cs) (xs := xs) (by omega) (by simpa using hn) (fun i f hi => hf i f (by simpa using hi)) (fun m hm => hw m (by simpa [DataW.weights, hu] using hm))
    simpa using this⟩
theorem Opn.of {α β : Type} {P : Program} {T : TypeId} {sz : Nat} {enc : α → List Value} {G : World → α → Prop} {enc' : β → List Value} {G' : World → β → Prop} (h : Opn P T sz enc G) (hl : ∀ x, (enc' x).length = sz) (f : α → β) (he : ∀ x, enc x = enc' (f x)) (hg : ∀ w x, G w x → G' w (f x)) : Opn P T sz enc' G' :=
  ⟨h.hz, hl, fun a b => let ⟨y, h1, h2⟩ := h.op a b; ⟨f y, h1.trans (he y), hg _ _ h2⟩⟩
theorem Opn.mono {α : Type} {P : Program} {T : TypeId} {sz : Nat} {enc : α → List Value} {G G' : World → α → Prop} (h : Opn P T sz enc G) (hg : ∀ w x, G w x → G' w x) : Opn P T sz enc G' :=
  ⟨h.hz, h.len, fun a b => let ⟨y, h1, h2⟩ := h.op a b; ⟨y, h1, hg _ _ h2⟩⟩
theorem Opn.array {α : Type} {P : Program} {T e m sz : Nat} {enc : α → List Value} {G : World → α → Prop} (h : Opn P e sz enc G) [Inhabited α] (hu : P.underlying T = some (.array m e)) (hc : P.cellsOf T = m * sz) :
    Opn P T (m * sz) (eA m enc) (gA m G) :=
  ⟨hc, fun f => by
    have : ∀ l : List Nat, (l.flatMap fun i => enc (f i)).length = l.length * sz := by
      intro l
      induction l with
      | nil => simp
      | cons x l ih => simp only [List.flatMap_cons, List.length_append, ih, h.len, List.length_cons, Nat.succ_mul]; omega
    show (List.flatMap _ _).length = _
    rw [this, List.length_range], fun {H encH w base spare held fuel cs x} hx hw => by
    obtain ⟨xs, n, _, rfl, hl, hn, hf⟩ := DataW.trod_array hu hx
    have hwe : ∀ i (hi : i < xs.length), ∀ k ∈ (xs[i]).1.weights P e, k ≤ reachBytes := by
      intro i hi k hk
      refine hw k ?_
      have hmem : ∀ (l : List (DataW H)) (q : DataW H), q ∈ l → ∀ m ∈ q.weights P e, m ∈ DataW.weightsAll P e l := by
        intro l
        induction l with
        | nil => intro q hq; simp at hq
        | cons q0 r ih =>
          intro q hq m hm
          simp only [DataW.weightsAll, List.mem_append]
          rcases List.mem_cons.1 hq with rfl | hq
          · exact .inl hm
          · exact .inr (ih q hq m hm)
      have := hmem (xs.map (·.1)) (xs[i]).1 (List.mem_map.2 ⟨xs[i], List.getElem_mem _, rfl⟩) k hk
      simp only [DataW.weights, hu]
      exact this
    have hel : ∀ i, i < m → ∃ y, (cs.drop (i * sz)).take sz = enc y ∧ G w y := fun i hi => by
      have h1 := hf i hi
      rw [List.getElem?_eq_getElem (by omega), h.hz] at h1
      exact h.op h1 (hwe i (by omega))
    have hi0 : ∀ k, k ≤ m → ∃ f : Nat → Option α, ∀ i, i < k → ∃ y, f i = some y ∧ (cs.drop (i * sz)).take sz = enc y ∧ G w y := by
      intro k
      induction k with
      | zero => exact fun _ => ⟨fun _ => none, fun i hi => absurd hi (Nat.not_lt_zero _)⟩
      | succ k ih =>
        intro hk
        obtain ⟨f, hf⟩ := ih (by omega)
        obtain ⟨y, h1, h2⟩ := hel k (by omega)
        refine ⟨fun i => if i = k then some y else f i, fun i hi => ?_⟩
        by_cases he : i = k
        · subst he
          exact ⟨y, if_pos rfl, h1, h2⟩
        · obtain ⟨z, e1, e2⟩ := hf i (by omega)
          exact ⟨z, (if_neg he).trans e1, e2⟩
    obtain ⟨g, hg⟩ := hi0 m (Nat.le_refl _)
    have hjoin : ∀ k, k ≤ m → ∀ f : Nat → α, (∀ i, i < k → (cs.drop (i * sz)).take sz = enc (f i)) → cs.take (k * sz) = (List.range k).flatMap fun i => enc (f i) := by
      intro k
      induction k with
      | zero => intro _ f _; simp
      | succ k ih =>
        intro hk f hfe
        rw [List.range_succ, List.flatMap_append, ← ih (by omega) f (fun i hi => hfe i (by omega)), Nat.succ_mul, List.take_add, hfe k (by omega)]
        simp
    let d : α := default
    · skip
      refine ⟨fun i => (g i).getD d, ?_, fun i hi => ?_⟩
      · show cs = (List.range m).flatMap fun i => enc ((g i).getD d)
        rw [← hjoin m (Nat.le_refl _) (fun i => (g i).getD d) (fun i hi => by
          obtain ⟨y, h1, h2, _⟩ := hg i hi
          show _ = enc ((g i).getD d)
          rw [h1]
          exact h2), List.take_of_length_le (by rw [hl, hc]; exact Nat.le_refl _)]
      · obtain ⟨y, h1, _, h3⟩ := hg i hi
        show G w ((g i).getD d)
        rw [h1]
        exact h3⟩
/-- An argument of a row. -/
theorem opened {α : Type} {P : Program} {T : TypeId} {sz : Nat} {enc : α → List Value} {G : World → α → Prop} (h : Opn P T sz enc G) {H : Type} {encH : TypeId × Value → H} {w : World} {base : Nat} {spare : Nat → Bool} {held : Bool} {v : Value} {x : DataW H} {ps : List MemPlace} {ts : List TypeId} {ds : List (DataW H)} {j : Nat}
    (hsz : (DataW.weightsEach P ts ds).all (· ≤ reachBytes) = true) (ht : ts[j]? = some T) (hd : ds[j]? = some x) (hT : DataW.Trod encH P w base spare held T v x ps) : ∃ y, v.cells.toList = enc y ∧ G w y := by
  obtain ⟨fuel, hf⟩ := hT
  exact h.op hf (fun n hn => by simpa using List.all_eq_true.1 hsz _ (DataW.weights_mem_each ht hd n hn))
end Go.Proofs.YtglkhjjhjhhonaaM.Open
