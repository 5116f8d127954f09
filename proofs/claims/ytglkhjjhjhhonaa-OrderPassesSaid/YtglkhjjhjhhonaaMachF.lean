/- A drawn region whose last operation waits for all others. No condition beside those that each theorem names. -/
import Derived.Test.YtglkhjjhjhhonaaMachE
namespace Go.Proofs.YtglkhjjhjhhonaaM.Mach
open Go.RowKit
set_option linter.unusedVariables false
set_option linter.unusedSimpArgs false
/-! ### A drawn region whose last operation waits for all others -/
section
variable {P : Program} {K : Exit → Act → World → Prop}
def lastK (P : Program) (ops : Array Oper) (K : Exit → Act → World → Prop) (N : Nat) : Exit → Act → World → Prop
  | .normal, a, w => wpOp P ops K N (fun a w => K .normal a w) a w
  | e, a, w => K e a w
theorem oper_last {ops : Array Oper} {N : Nat} {o : Oper} {a : Act} {w : World} {X X' : Act → World → Prop} (h : ∀ a w, X a w → X' a w) (hh : o.wp P a w X (lastK P ops K N)) : o.wp P a w X' K := by
  unfold Oper.wp at *
  generalize (execOp a.eval o).run P w = r at *
  cases r with
  | ok n w' =>
    cases n <;> simp only [Oper.upon] at hh ⊢ <;>
      first
        | exact h _ _ hh
        | exact Calls.mono hh (fun e w'' he => by cases e <;> first | exact h _ _ he | exact he)
        | exact Rows.mono hh (fun _ _ he => h _ _ he)
  | halt x w' => cases x <;> simp only [Oper.upon] at hh ⊢ <;> exact hh
structure LastOK (ops ops' : Array Oper) (N : Nat) : Prop where
  sz : ops'.size = N
  end_ : ops.size = N + 1
  same : ∀ j, j < N → ops[j]? = ops'[j]?
  ok : DOK ops'
  dep : ∀ (j : Nat) (o : Oper), ops[j]? = some o → ∀ e ∈ depsOf o, e < N
  last : ∀ b, b < N → waitsT ops ops.size N b = true
  gd : ∀ (j : Nat) (o : Oper), j < N → ops[j]? = some o → ∀ k want, o.guard = some (k, want) → k < N
theorem yld_last {ops ops' : Array Oper} {N : Nat} (h : LastOK ops ops' N) {j : Nat} {o : Oper} (hj : j < N) (ho : ops[j]? = some o) (t : Array Value) : Region.wanted o (yielded ops' t) = Region.wanted o (yielded ops t) := by
  unfold Region.wanted
  cases hg : o.guard with
  | none => rfl
  | some kw =>
    obtain ⟨k, want⟩ := kw
    have := h.gd j o hj ho k want hg
    simp only [yielded]
    rw [h.same k this]
theorem wpOp_last {ops ops' : Array Oper} {N : Nat} (h : LastOK ops ops' N) {i : Nat} (hi : i < N) {a : Act} {w : World} {X X' : Act → World → Prop} (hX : ∀ a w, X a w → X' a w) (hh : wpOp P ops' (lastK P ops K N) i X a w) : wpOp P ops K i X' a w := by
  unfold wpOp at *
  rw [h.same i hi]
  split
  · rename_i hn
    simp only [hn] at hh
    exact hX _ _ hh
  · rename_i o ho
    simp only [ho] at hh
    have e := yld_last h hi ((h.same i hi).trans ho) a.tmps
    rw [← e]
    split
    · rename_i hw
      simp only [hw, if_true] at hh
      exact hh.imp (oper_last hX) id
    · rename_i hw
      simp only [hw] at hh
      exact hX _ _ hh
theorem getD_eq {ls ls' : Array Bool} {j : Nat} (h : ls[j]? = ls'[j]?) (b : Bool) : ls.getD j b = ls'.getD j b := by
  rw [Array.getD_eq_getD_getElem?, Array.getD_eq_getD_getElem?, h]
theorem last_ready {ops ops' : Array Oper} {N : Nat} (h : LastOK ops ops' N) (ls ls' : Array Bool) (hs : ls.size = N + 1) (hs' : ls'.size = N) (hl : ∀ j, j < N → ls[j]? = ls'[j]?) {i : Nat} (hi : i ∈ Region.ready .any ops' ls') : i ∈ Region.ready .any ops ls := by
  obtain ⟨h1, o, ho, h2⟩ := mem_ready.1 hi
  have hlt : i < N := by
    rw [← h.sz]
    exact (Array.getElem?_eq_some_iff.1 ho).1
  refine mem_ready.2 ⟨by rw [getD_eq (hl i hlt)]; exact h1, o, by rw [h.same i hlt]; exact ho, fun e he hb => ?_⟩
  have h3 : e.on ∈ depsOf o := List.mem_map.2 ⟨e, List.mem_filter.2 ⟨by simpa using he, hb⟩, rfl⟩
  rw [getD_eq (hl e.on (h.dep i o (by rw [h.same i hlt]; exact ho) _ h3))]
  exact h2 e he hb
theorem last_all {ops ops' : Array Oper} {N : Nat} (h : LastOK ops ops' N) (ls ls' : Array Bool) (hs : ls.size = N + 1) (hs' : ls'.size = N) (hl : ∀ j, j < N → ls[j]? = ls'[j]?)
    (hsh : ∀ (i : Nat) (o : Oper), ops[i]? = some o → ls.getD i false = true → ∀ e ∈ depsOf o, ls.getD e false = true) (hi : N ∈ Region.ready .any ops ls) : Region.ready .any ops' ls' = [] := by
  rw [List.eq_nil_iff_forall_not_mem]
  intro b hb
  obtain ⟨h1, o, ho, h2⟩ := mem_ready.1 hb
  have hlt : b < N := by
    rw [← h.sz]
    exact (Array.getElem?_eq_some_iff.1 ho).1
  have h3 := waitsT_spec hsh ops.size N b (h.last b hlt) fun o' ho' => ready_deps hi ho'
  rw [getD_eq (hl b hlt)] at h3
  have h4 : b < ls'.size := by omega
  simp [h4] at h1 h3
  rw [h1] at h3
  cases h3
theorem last_fin {ops ops' : Array Oper} {N : Nat} (h : LastOK ops ops' N) (ls ls' : Array Bool) (a : Act) (W : World) (hs : ls.size = N + 1) (hs' : ls'.size = N) (hl : ∀ j, j < N → ls[j]? = ls'[j]?) (hN : ls.getD N true = false)
    (hsh : ∀ (i : Nat) (o : Oper), ops[i]? = some o → ls.getD i false = true → ∀ e ∈ depsOf o, ls.getD e false = true) (hr : Region.ready .any ops' ls' = []) (hQ : lastK P ops K N .normal a W) : wpA P K ops ls a W := by
  have hall := ready_nil h.ok (by rw [hs', h.sz]) hr
  have hall' : ∀ i, i < N → ls.getD i false = true := fun i hi => by
    rw [getD_eq (hl i hi)]
    exact hall i (by rw [h.sz]; exact hi)
  obtain ⟨o, ho⟩ : ∃ o, ops[N]? = some o := ⟨ops[N]'(by rw [h.end_]; omega), Array.getElem?_eq_getElem _⟩
  have hNr : N ∈ Region.ready .any ops ls := mem_ready.2 ⟨hN, o, ho, fun e he hb => hall' _ (h.dep N o ho _ (List.mem_map.2 ⟨e, List.mem_filter.2 ⟨by simpa using he, hb⟩, rfl⟩))⟩
  refine wpA_step (fun h0 => ?_) fun i hi => ?_
  · rw [h0] at hNr
    cases hNr
  · have hiN : i = N := by
      obtain ⟨h1, o', ho', _⟩ := mem_ready.1 hi
      have hlt : i < N + 1 := by
        rw [← h.end_]
        exact (Array.getElem?_eq_some_iff.1 ho').1
      by_cases hlt' : i < N
      · have h2 := hall' i hlt'
        have h4 : i < ls.size := by omega
        simp [h4] at h1 h2
        rw [h1] at h2
        cases h2
      · omega
    subst hiN
    have hQ' : wpOp P ops K i (fun a w => K .normal a w) a W := hQ
    refine wpOp_mono (fun a' W' hk => wpA_step (fun _ => hk) fun j hj => ?_) hQ'
    exfalso
    obtain ⟨h1, o', ho', _⟩ := mem_ready.1 hj
    have hlt : j < i + 1 := by
      rw [← h.end_]
      exact (Array.getElem?_eq_some_iff.1 ho').1
    by_cases hji : i = j
    · subst hji
      rw [Array.getD_eq_getD_getElem?, Array.getElem?_setIfInBounds_self_of_lt (by omega)] at h1
      cases h1
    · rw [Array.getD_eq_getD_getElem?, Array.getElem?_setIfInBounds_ne hji, ← Array.getD_eq_getD_getElem?] at h1
      have h2 := hall' j (by omega)
      have h4 : j < ls.size := by omega
      simp [h4] at h1 h2
      rw [h1] at h2
      cases h2
theorem last_split {ops ops' : Array Oper} {N : Nat} (h : LastOK ops ops' N) : ∀ (m : Nat) (ls ls' : Array Bool) (a : Act) (W : World), ls.size = N + 1 → ls'.size = N → (∀ j, j < N → ls[j]? = ls'[j]?) → ls.getD N true = false →
    (∀ (i : Nat) (o : Oper), ops[i]? = some o → ls.getD i false = true → ∀ e ∈ depsOf o, ls.getD e false = true) → wpAny P .any ops' (lastK P ops K N) m ls' a W → wpA P K ops ls a W := by
  intro m
  induction m with
  | zero =>
    intro ls ls' a W hs hs' hl hN hsh hH
    exact last_fin h ls ls' a W hs hs' hl hN hsh hH.1 hH.2
  | succ m ih =>
    intro ls ls' a W hs hs' hl hN hsh hH
    by_cases hr : Region.ready .any ops' ls' = []
    · exact last_fin h ls ls' a W hs hs' hl hN hsh hr (hH.1 hr)
    · refine wpA_step (fun h0 => ?_) fun i hi => ?_
      · exfalso
        obtain ⟨i, hi⟩ := List.exists_mem_of_ne_nil _ hr
        have h1 := last_ready h ls ls' hs hs' hl hi
        rw [h0] at h1
        cases h1
      · by_cases hiN : i = N
        · exfalso
          subst hiN
          exact hr (last_all h ls ls' hs hs' hl hsh hi)
        · have hi2 := mem_ready.1 hi
          obtain ⟨h1, o, ho, h2⟩ := hi2
          have hlt : i < N + 1 := by
            rw [← h.end_]
            exact (Array.getElem?_eq_some_iff.1 ho).1
          have hlt' : i < N := by omega
          have hi' : i ∈ Region.ready .any ops' ls' := mem_ready.2 ⟨by rw [← getD_eq (hl i hlt')]; exact h1, o, by rw [← h.same i hlt']; exact ho, fun e he hb => by
            have h3 : e.on ∈ depsOf o := List.mem_map.2 ⟨e, List.mem_filter.2 ⟨by simpa using he, hb⟩, rfl⟩
            rw [← getD_eq (hl e.on (h.dep i o ho _ h3))]
            exact h2 e he hb⟩
          refine wpOp_last h hlt' (fun a' W' hX => ih _ _ a' W' (by simpa using hs) (by simpa using hs') (fun j hj => ?_) ?_ (fun k ok hk hlk e he => ?_) hX) (hH.2 i hi')
          · by_cases hji : i = j
            · subst hji
              rw [Array.getElem?_setIfInBounds_self_of_lt (by omega), Array.getElem?_setIfInBounds_self_of_lt (by omega)]
            · rw [Array.getElem?_setIfInBounds_ne hji, Array.getElem?_setIfInBounds_ne hji]
              exact hl j hj
          · rw [Array.getD_eq_getD_getElem?, Array.getElem?_setIfInBounds_ne hiN, ← Array.getD_eq_getD_getElem?]
            exact hN
          · by_cases hke : i = e
            · subst hke
              rw [Array.getD_eq_getD_getElem?, Array.getElem?_setIfInBounds_self_of_lt (by omega)]
              rfl
            · rw [Array.getD_eq_getD_getElem?, Array.getElem?_setIfInBounds_ne hke, ← Array.getD_eq_getD_getElem?]
              by_cases hik : i = k
              · subst hik
                rw [ho] at hk
                cases hk
                obtain ⟨e', he', rfl⟩ := List.mem_map.1 he
                obtain ⟨h5, h6⟩ := List.mem_filter.1 he'
                exact h2 e' (by simpa using h5) h6
              · rw [Array.getD_eq_getD_getElem?, Array.getElem?_setIfInBounds_ne hik, ← Array.getD_eq_getD_getElem?] at hlk
                exact hsh k ok hk hlk e he
end
section
variable {P : Program} {Q : Exit → Act → World → Prop} {K : Exit → Act → World → Prop} {F : List Asrt}
def lastB (ops : Array Oper) (ord : List Nat) : Bool := match ops.size with
  | 0 => false
  | N + 1 => dOK ops.pop ord && (List.range N).all (fun b => waitsT ops ops.size N b) &&
    (List.range (N + 1)).all fun j => match ops[j]? with
      | none => true
      | some o => (depsOf o).all (fun e => Nat.blt e N) && (Nat.beq j N || match o.guard with | none => true | some (k, _) => Nat.blt k N)
theorem lastB_spec {ops : Array Oper} {ord : List Nat} (h : lastB ops ord = true) : LastOK ops ops.pop (ops.size - 1) := by
  unfold lastB at h
  split at h
  · cases h
  · rename_i N hN
    simp only [Bool.and_eq_true] at h
    obtain ⟨⟨h1, h2⟩, h3⟩ := h
    rw [hN]
    show LastOK ops ops.pop N
    have key : ∀ (j : Nat) (o : Oper), ops[j]? = some o → (∀ e ∈ depsOf o, e < N) ∧ (j = N ∨ ∀ k want, o.guard = some (k, want) → k < N) := by
      intro j o ho
      have hj := (Array.getElem?_eq_some_iff.1 ho).1
      have h4 := List.all_eq_true.1 h3 j (List.mem_range.2 (by omega))
      rw [ho] at h4
      simp only [Bool.and_eq_true, Bool.or_eq_true] at h4
      refine ⟨fun e he => Nat.le_of_ble_eq_true (List.all_eq_true.1 h4.1 e he), h4.2.imp Nat.eq_of_beq_eq_true fun h5 k want hg => ?_⟩
      rw [hg] at h5
      exact Nat.le_of_ble_eq_true h5
    refine ⟨by simp [hN], hN, fun j hj => ?_, dOK_spec h1, fun j o ho => (key j o ho).1, fun b hb => List.all_eq_true.1 h2 b (List.mem_range.2 hb), fun j o hj ho => ((key j o ho).2.resolve_left (by omega))⟩
    rw [Array.getElem?_pop, if_pos (by omega)]
def alGp (P : Program) (s : St) (x : Nat × TypeId × List Value) : Prop := ∀ (g : Nat) (L : List Blk), ((drOps s).pop[x.1]?).map (fun o => sym P g (execOp (evl []) o) true [] L) = some (some (.value (.pointer (some ⟨g, 0, none⟩)), (g, x.2.1, x.2.2) :: L, [], []))
def drlB (P : Program) (s : St) (ord : List Nat) (al : List (Nat × TypeId × List Value)) : Bool := (match s.fs with | .code (.region _ _ true) :: _ => true | _ => false) && P.follows .mixedOrders && lastB (drOps s) ord && Region.noSelect (drOps s).pop && nodupB (al.map (·.1)) &&
  al.all fun x => match (drOps s).pop[x.1]? with
    | none => false
    | some o => match o.dst, o.op with
      | some d, .alloc _ => Nat.blt d s.l.length && o.guard.isNone
      | _, _ => false
def drlS (s : St) (al : List (Nat × TypeId × List Value)) : DS := ⟨(drOps s).pop, al.map (·.1), [], al, s.l, s.L⟩
/-- A drawn region, but for its last operation. -/
theorem drl {s : St} (ord : List Nat) (al : List (Nat × TypeId × List Value)) (hal : AllB (al.map (alGp P (nm s)))) (h : DG P (lastK P (drOps (nm s)) (KK P Q (drFs (nm s))) ((drOps (nm s)).size - 1)) F (drlS (nm s) al)) (hB : drlB P (nm s) ord al = true := by kernel_rfl) : Go P Q F s := by
  refine norm_sound 400 ?_
  show Go P Q F (nm s)
  revert hal h hB
  generalize nm s = s
  intro hal h hB
  unfold drlB at hB
  simp only [Bool.and_eq_true] at hB
  obtain ⟨⟨⟨⟨⟨h1, h2⟩, h3⟩, h4⟩, h5⟩, h6⟩ := hB
  split at h1
  · rename_i id ops fs hfs
    have e1 : drFs s = fs := by simp only [drFs, hfs]
    have e2 : drOps s = ops := by simp only [drOps, hfs]
    have hok := lastB_spec h3
    intro W hW
    rw [hfs]
    show Code.wp P (.region id ops true) (KK P Q fs) _ W
    refine wp_region_any h2 ?_
    have hdw : DW P F (drlS s al) := by
      refine ⟨hok.ok, h4, nodupB_spec _ h5, fun x hx => List.mem_map.2 ⟨x, hx, rfl⟩, fun x hx => ?_, (fun b hb => by cases hb), (fun b hb => by cases hb)⟩
      have h7 := List.all_eq_true.1 h6 x hx
      have h8 : alGp P s x := hal.spec _ (List.mem_map.2 ⟨x, hx, rfl⟩)
      split at h7
      · cases h7
      · rename_i o ho
        split at h7
        · rename_i d t hd hop
          simp only [Bool.and_eq_true] at h7
          refine ⟨o, d, ⟨ho, hd, by simpa using h7.2, ⟨t, hop⟩, fun g L => ?_⟩, Nat.le_of_ble_eq_true h7.1⟩
          have := h8 g L
          rw [ho] at this
          exact Option.some.inj this
        · cases h7
    have hrep : ∀ n i : Nat, (Array.replicate n false).getD i false = false := by
      intro n i
      rw [Array.getD_eq_getD_getElem?, Array.getElem?_replicate]
      split <;> rfl
    have hga := h hdw (Array.replicate (ops.size - 1) false) ⟨s.l.toArray, []⟩ W.drew [] ⟨by simp [drlS, e2], fun i hi => ?_, fun i hi h7 h8 => ?_, ⟨by simp [drlS], rfl, fun t ht => by simp [drlS]⟩, ?_, HoldR.drew hW, fun i o _ hl => ?_⟩
    · have hw : wpAny P .any ops.pop (lastK P ops (KK P Q fs) (ops.size - 1)) (ops.size - 1) (Array.replicate (ops.size - 1) false) ⟨s.l.toArray, []⟩ W.drew := by
        have := hga (ops.size - 1) (by simp [unl])
        rw [drlS, e2, e1] at this
        exact this
      rw [e2] at hok
      have hend := hok.end_
      have hfin := last_split (K := KK P Q fs) hok (ops.size - 1) (Array.replicate ops.size false) (Array.replicate (ops.size - 1) false) ⟨s.l.toArray, []⟩ W.drew (by rw [Array.size_replicate]; exact hend) (by simp) (fun j hj => by rw [Array.getElem?_replicate, Array.getElem?_replicate, if_pos (by omega), if_pos hj]) (by rw [Array.getD_eq_getD_getElem?, Array.getElem?_replicate, if_pos (by omega)]; rfl) (fun i o _ hl => by rw [hrep] at hl; cases hl) hw
      exact hfin ops.size (by simp [unl])
    · rw [hrep] at hi
      cases hi
    · exact absurd hi h8
    · have : ∀ al, AlOf (drlS s al).ops (Array.replicate (ops.size - 1) false) ⟨s.l.toArray, []⟩ al [] := by
        intro al
        have h9 : ∀ (ops' : Array Oper) al, AlOf ops' (Array.replicate (ops.size - 1) false) ⟨s.l.toArray, []⟩ al [] := by
          intro ops' al
          induction al with
          | nil => exact .nil
          | cons x r ih => exact .no (hrep _ _) ih
        exact h9 _ al
      exact this al
    · rw [hrep] at hl
      cases hl
  · cases h1
def lastAt (P : Program) (ops : Array Oper) (N : Nat) (l : List Value) : Option Value := match ops[N]? with
  | some o => match wantd ops l o with
    | true => match semP P (execOp (evl l) o) with
      | some (.value v) => some v
      | _ => none
    | false => none
  | none => none
/-- Its end: the last operation yields a value. -/
theorem del {s : DS} {ops : Array Oper} {N : Nat} {fs : List Fr} (v : Value) (h : Go P Q F ⟨fs, setd s.l ((ops[N]?).bind (·.dst)) v, s.L⟩) (hB : deB s = true := by kernel_rfl) (hv : lastAt P ops N s.l = some v := by kernel_rfl) : DG P (lastK P ops (KK P Q fs) N) F s := by
  intro hw
  simp only [deB, Bool.and_eq_true] at hB
  refine ga_done hw (fun i hi => by simpa using List.all_eq_true.1 hB.2 i (List.mem_range.2 hi)) (by simpa using hB.1) fun W hW => ?_
  show wpOp P ops (KK P Q fs) N (fun a w => KK P Q fs .normal a w) ⟨s.l.toArray, []⟩ W
  unfold lastAt at hv
  split at hv
  · rename_i o ho
    split at hv
    · rename_i hwt
      split at hv
      · rename_i v' hs
        cases hv
        unfold wpOp
        rw [ho]
        simp only
        rw [if_pos ((wantd_eq ops _ o).trans hwt)]
        refine .inl ?_
        unfold Oper.wp
        rw [evl_eq, semP_run _ _ W hs, Oper.upon_value, put_eq]
        rw [ho, Option.bind_some] at h
        exact h W hW
      · cases hv
    · cases hv
  · cases hv
end
end Go.Proofs.YtglkhjjhjhhonaaM.Mach
