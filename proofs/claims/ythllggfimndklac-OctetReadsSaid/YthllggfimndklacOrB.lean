/- What walks by single operations lean on. No condition beside those that each theorem names. -/
import Derived.Test.YthllggfimndklacOrA
namespace Go.Proofs.Ythllggfimndklac.Or
open Go.RowKit Go.Proofs.YthllggfimndklacW.PrintWords Go.Proofs.YthllggfimndklacW.PrintLast Go.Proofs.YthllggfimndklacW.PrintMore
attribute [local go_sem] max2_int min2_int max_two min_two max_three min_three max_four min_four   -- for this text's walks alone
open Go.Proofs.YthllggfimndklacW.HWords
set_option linter.unusedVariables false
set_option linter.unusedSimpArgs false
open Go.Proofs.Ythllggfimndklac.QOctetReads
theorem st_one {P : Program} {ops : Array Oper} {rest : List Oper} {o : Oper} {a a' : Act} {w w' : World} {Q : Exit → Act → World → Prop} (v : Value) (hg : Region.wanted o (yielded ops a.tmps) = true)
    (hv : (execOp a.eval o).run P w = .ok (.value v) w') (ha : a.put o.dst v = a') (h : wpList P ops Q rest a' w') : wpList P ops Q (o :: rest) a w := by
  subst ha
  refine wpList_step fun K hK => ?_
  rw [if_pos hg]
  unfold Oper.wp
  rw [hv, Oper.upon_value]
  exact hK _ _ h
theorem sk {P : Program} {ops : Array Oper} {rest : List Oper} {o : Oper} {a a' : Act} {w : World} {Q : Exit → Act → World → Prop} (v : Value) (h : wpList P ops Q rest a' w) (hg : Region.wanted o (yielded ops a.tmps) = true := by kernel_rfl)
    (hv : (execOp a.eval o).run P w = .ok (.value v) w := by kernel_rfl) (ha : a.put o.dst v = a' := by kernel_rfl) : wpList P ops Q (o :: rest) a w := st_one v hg hv ha h
theorem se {P : Program} {ops : Array Oper} {rest : List Oper} {o : Oper} {a a' : Act} {w w' : World} {Q : Exit → Act → World → Prop} (v : Value) (hv : (execOp a.eval o).run P w = .ok (.value v) w') (h : wpList P ops Q rest a' w') (hg : Region.wanted o (yielded ops a.tmps) = true := by kernel_rfl)
    (ha : a.put o.dst v = a' := by kernel_rfl) : wpList P ops Q (o :: rest) a w := st_one v hg hv ha h
theorem skp {P : Program} {ops : Array Oper} {rest : List Oper} {o : Oper} {a : Act} {w : World} {Q : Exit → Act → World → Prop} (v : Value) (h : wpList P ops Q rest (a.put o.dst v) w) (hg : Region.wanted o (yielded ops a.tmps) = true := by kernel_rfl)
    (hv : (execOp a.eval o).run P w = .ok (.value v) w := by kernel_rfl) : wpList P ops Q (o :: rest) a w := st_one v hg hv rfl h
theorem sep {P : Program} {ops : Array Oper} {rest : List Oper} {o : Oper} {a : Act} {w w' : World} {Q : Exit → Act → World → Prop} (v : Value) (hv : (execOp a.eval o).run P w = .ok (.value v) w') (h : wpList P ops Q rest (a.put o.dst v) w') (hg : Region.wanted o (yielded ops a.tmps) = true := by kernel_rfl) : wpList P ops Q (o :: rest) a w := st_one v hg hv rfl h
theorem st_none {P : Program} {ops : Array Oper} {rest : List Oper} {o : Oper} {a a' : Act} {w w' : World} {Q : Exit → Act → World → Prop} (hg : Region.wanted o (yielded ops a.tmps) = true)
    (hv : (execOp a.eval o).run P w = .ok .skip w') (ha : a.put o.dst undef = a') (h : wpList P ops Q rest a' w') : wpList P ops Q (o :: rest) a w := by
  subst ha
  refine wpList_step fun K hK => ?_
  rw [if_pos hg]
  unfold Oper.wp
  rw [hv, Oper.upon_skip]
  exact hK _ _ h
theorem st_skip {P : Program} {ops : Array Oper} {rest : List Oper} {o : Oper} {a a' : Act} {w : World} {Q : Exit → Act → World → Prop} (hg : Region.wanted o (yielded ops a.tmps) = false)
    (ha : a.put o.dst undef = a') (h : wpList P ops Q rest a' w) : wpList P ops Q (o :: rest) a w := by
  subst ha
  refine wpList_step fun K hK => ?_
  rw [hg]
  exact hK _ _ h
theorem st_call {P : Program} {ops : Array Oper} {rest : List Oper} {o : Oper} {a : Act} {w : World} {Q : Exit → Act → World → Prop} {f : FuncId} {args : Array Value} {R : Ending → World → Prop} (hc : Calls P f args w R) (hg : Region.wanted o (yielded ops a.tmps) = true)
    (hv : (execOp a.eval o).run P w = .ok (.enter f args) w) (h : ∀ e w', R e w' → ∃ v a', e = .returned v ∧ a.put o.dst v = a' ∧ wpList P ops Q rest a' w') : wpList P ops Q (o :: rest) a w := by
  refine wpList_step fun K hK => ?_
  rw [if_pos hg]
  unfold Oper.wp
  rw [hv, Oper.upon_enter]
  refine hc.mono ?_
  intro e w' hR
  obtain ⟨v, a', rfl, rfl, hw⟩ := h e w' hR
  exact hK _ _ hw
theorem st_ok {w : World} {b c : Bool} (h : b = c) : (Result.ok (Next.value (.bool b)) w : Result Next) = .ok (.value (.bool c)) w := by rw [h]
theorem dr_one {P : Program} {md : Region.Mode} {ops : Array Oper} {Q : Exit → Act → World → Prop} {S : World → Prop} {fuel : Nat} {listed : Array Bool} {a a' : Act} {w : World} (i : Nat) {o : Oper} (v : Value) (hi : ops[i]? = some o)
    (hs : Region.noSelect ops = true) (hf : Region.free md ops listed i = true) (hr : (Region.ready md ops listed).contains i = true) (hQ : ∀ c a w, Q (.panic c) (a.put o.dst v) w → Q (.panic c) a w)
    (hg : Region.wanted o (yielded ops a.tmps) = true) (hv : ∀ W, S W → (execOp a.eval o).run P W = .ok (.value v) W) (hS : S w) (ha : a.put o.dst v = a')
    (h : wpAnyH P md ops Q S fuel (listed.setIfInBounds i true) a' w) : wpAnyH P md ops Q S (fuel + 1) listed a w := by
  subst ha
  exact wpAnyH_take hi hs hf hr hQ (.inl ⟨hg, hv⟩) hS h
theorem dk {P : Program} {md : Region.Mode} {ops : Array Oper} {Q : Exit → Act → World → Prop} {S : World → Prop} {fuel : Nat} {listed : Array Bool} {a a' : Act} {w : World} {o : Oper} (i : Nat) (v : Value) (hS : S w)
    (h : wpAnyH P md ops Q S fuel (listed.setIfInBounds i true) a' w) (hi : ops[i]? = some o := by rfl) (hs : Region.noSelect ops = true := by kernel_rfl) (hf : Region.free md ops listed i = true := by kernel_rfl) (hr : (Region.ready md ops listed).contains i = true := by kernel_rfl) (hQ : ∀ c a w, Q (.panic c) (a.put o.dst v) w → Q (.panic c) a w := by exact fun _ _ _ h => h)
    (hg : Region.wanted o (yielded ops a.tmps) = true := by kernel_rfl) (hv : ∀ W, S W → (execOp a.eval o).run P W = .ok (.value v) W := by exact fun W hH => by kernel_rfl) (ha : a.put o.dst v = a' := by kernel_rfl) : wpAnyH P md ops Q S (fuel + 1) listed a w := dr_one i v hi hs hf hr hQ hg hv hS ha h
theorem de {P : Program} {md : Region.Mode} {ops : Array Oper} {Q : Exit → Act → World → Prop} {S : World → Prop} {fuel : Nat} {listed : Array Bool} {a a' : Act} {w : World} {o : Oper} (i : Nat) (v : Value) (hi : ops[i]? = some o) (hv : ∀ W, S W → (execOp a.eval o).run P W = .ok (.value v) W) (hS : S w)
    (h : wpAnyH P md ops Q S fuel (listed.setIfInBounds i true) a' w) (hs : Region.noSelect ops = true := by kernel_rfl) (hf : Region.free md ops listed i = true := by kernel_rfl) (hr : (Region.ready md ops listed).contains i = true := by kernel_rfl) (hQ : ∀ c a w, Q (.panic c) (a.put o.dst v) w → Q (.panic c) a w := by exact fun _ _ _ h => h)
    (hg : Region.wanted o (yielded ops a.tmps) = true := by kernel_rfl) (ha : a.put o.dst v = a' := by kernel_rfl) : wpAnyH P md ops Q S (fuel + 1) listed a w := dr_one i v hi hs hf hr hQ hg hv hS ha h
theorem dr_skip {P : Program} {md : Region.Mode} {ops : Array Oper} {Q : Exit → Act → World → Prop} {S : World → Prop} {fuel : Nat} {listed : Array Bool} {a a' : Act} {w : World} (i : Nat) {o : Oper} (hi : ops[i]? = some o)
    (hs : Region.noSelect ops = true) (hf : Region.free md ops listed i = true) (hr : (Region.ready md ops listed).contains i = true) (hQ : ∀ c a w, Q (.panic c) (a.put o.dst undef) w → Q (.panic c) a w)
    (hg : Region.wanted o (yielded ops a.tmps) = false) (hS : S w) (ha : a.put o.dst undef = a')
    (h : wpAnyH P md ops Q S fuel (listed.setIfInBounds i true) a' w) : wpAnyH P md ops Q S (fuel + 1) listed a w := by
  subst ha
  exact wpAnyH_take hi hs hf hr hQ (.inr ⟨hg, rfl⟩) hS h
theorem dr_here {P : Program} {md : Region.Mode} {ops : Array Oper} {Q : Exit → Act → World → Prop} {S : World → Prop} {fuel : Nat} {listed : Array Bool} {a a' : Act} {w w' : World} (i : Nat) {o : Oper} (v : Value) (hi : ops[i]? = some o)
    (hr : Region.ready md ops listed = [i]) (hg : Region.wanted o (yielded ops a.tmps) = true) (hv : (execOp a.eval o).run P w = .ok (.value v) w') (ha : a.put o.dst v = a') (hS : S w')
    (h : wpAnyH P md ops Q S fuel (listed.setIfInBounds i true) a' w') : wpAnyH P md ops Q S (fuel + 1) listed a w := by
  subst ha
  refine wpAnyH_ready hr (by simp) (AllReadyH.cons hi (fun K hK => ?_) AllReadyH.nil)
  rw [if_pos hg]
  unfold Oper.wp
  rw [hv, Oper.upon_value]
  exact hK.out _ _ hS (fun _ => h)
theorem dr_call {P : Program} {md : Region.Mode} {ops : Array Oper} {Q : Exit → Act → World → Prop} {S : World → Prop} {fuel : Nat} {listed : Array Bool} {a : Act} {w : World} {f : FuncId} {args : Array Value} {R : Ending → World → Prop} (i : Nat) {o : Oper} (hi : ops[i]? = some o)
    (hr : Region.ready md ops listed = [i]) (hc : Calls P f args w R) (hg : Region.wanted o (yielded ops a.tmps) = true) (hv : (execOp a.eval o).run P w = .ok (.enter f args) w)
    (h : ∀ e w', R e w' → ∃ v a', e = .returned v ∧ a.put o.dst v = a' ∧ S w' ∧ wpAnyH P md ops Q S fuel (listed.setIfInBounds i true) a' w') : wpAnyH P md ops Q S (fuel + 1) listed a w := by
  refine wpAnyH_ready hr (by simp) (AllReadyH.cons hi (fun K hK => ?_) AllReadyH.nil)
  rw [if_pos hg]
  unfold Oper.wp
  rw [hv, Oper.upon_enter]
  refine hc.mono ?_
  intro e w' hR
  obtain ⟨v, a', rfl, rfl, hS, hw⟩ := h e w' hR
  exact hK.out _ _ hS (fun _ => hw)
theorem dr_string {W : World} {s u : ByteArray} (h : s = u) {b : Bool} (hb : b = true) : (Result.ok (Next.value (.bool (s.toList == u.toList))) W : Result Next) = .ok (.value (.bool b)) W := by
  subst h
  subst hb
  simp
def zz : Value := undef
/-- A state: some slots are other than in a row of values. -/
def up (b : List Value) (ps : List (Nat × Value)) : Act := ⟨(ps.foldl (fun l p => l.set p.1 p.2) b).toArray, []⟩
/-- The blocks that a walk has made: each with its type and cells. -/
structure Ws (w0 W : World) (L : List (Nat × TypeId × Array Value)) : Prop where
  below : Below w0.heap.size w0 W
  blk : ∀ (j g : Nat) (T : TypeId) (cs : Array Value), L[j]? = some (g, T, cs) → W.heap[g]? = some (.cells cs T (0, 0)) ∧ w0.heap.size ≤ g
  dist : ∀ (i j : Nat) x y, L[i]? = some x → L[j]? = some y → x.1 = y.1 → i = j
theorem Ws.nil (w : World) : Ws w w [] := ⟨Below.refl _ _, fun j g T cs h => by simp at h, fun i j x y h => by simp at h⟩
theorem Ws.ofBelow {w W : World} (h : Below w.heap.size w W) : Ws w W [] := ⟨h, fun j g T cs h => by simp at h, fun i j x y h => by simp at h⟩
section
variable {P : Program} {w0 W W' : World} {L L' : List (Nat × TypeId × Array Value)} {g o : Nat} {T : TypeId} {cs cs' : Array Value}
theorem Ws.step (h : Ws w0 W L) (hb : Below W.heap.size W W') : Ws w0 W' L :=
  ⟨below_step h.below hb, fun j g T cs hj => ⟨blk_below (h.blk j g T cs hj).1 hb, (h.blk j g T cs hj).2⟩, h.dist⟩
theorem Ws.drew (h : Ws w0 W L) : Ws w0 W.drew L := h.step (below_drew (Below.refl _ _))
theorem Ws.swap {x y} (h : Ws w0 W (x :: y :: L)) : Ws w0 W (y :: x :: L) := by
  refine ⟨h.below, fun j g T cs hj => ?_, fun i j u v hi hj he => ?_⟩
  · rcases j with _ | _ | j
    · exact h.blk 1 g T cs hj
    · exact h.blk 0 g T cs hj
    · exact h.blk (j + 2) g T cs hj
  · rcases i with _ | _ | i <;> rcases j with _ | _ | j
    · rfl
    · have := h.dist 1 0 u v hi hj he; omega
    · have := h.dist 1 (j + 2) u v hi hj he; omega
    · have := h.dist 0 1 u v hi hj he; omega
    · rfl
    · have := h.dist 0 (j + 2) u v hi hj he; omega
    · have := h.dist (i + 2) 1 u v hi hj he; omega
    · have := h.dist (i + 2) 0 u v hi hj he; omega
    · have := h.dist (i + 2) (j + 2) u v hi hj he; omega
theorem Ws.tail {x} (h : Ws w0 W (x :: L)) : Ws w0 W L :=
  ⟨h.below, fun j g T cs hj => h.blk (j + 1) g T cs hj, fun i j u v hi hj he => by have := h.dist (i + 1) (j + 1) u v hi hj he; omega⟩
theorem Ws.alloc (h : Ws w0 W L) (cs : Array Value) (T : TypeId) : Ws w0 (W.alloc (.cells cs T)) ((W.heap.size, T, cs) :: L) := by
  refine ⟨below_alloc h.below _, fun j g T' cs' hj => ?_, fun i j x y hi hj he => ?_⟩
  · rcases j with _ | j
    · simp only [List.getElem?_cons_zero, Option.some.injEq, Prod.mk.injEq] at hj
      obtain ⟨rfl, rfl, rfl⟩ := hj
      exact ⟨blk_new _ _, h.below.size⟩
    · have := h.blk j g T' cs' (by simpa using hj)
      exact ⟨blk_alloc this.1 _, this.2⟩
  · rcases i with _ | i <;> rcases j with _ | j
    · rfl
    · obtain ⟨y1, y2, y3⟩ := y
      have := blk_lt (h.blk j y1 y2 y3 (by simpa using hj)).1
      simp only [List.getElem?_cons_zero, Option.some.injEq] at hi
      subst hi
      simp at he
      omega
    · obtain ⟨y1, y2, y3⟩ := x
      have := blk_lt (h.blk i y1 y2 y3 (by simpa using hi)).1
      simp only [List.getElem?_cons_zero, Option.some.injEq] at hj
      subst hj
      simp at he
      omega
    · have := h.dist i j x y (by simpa using hi) (by simpa using hj) he
      omega
/-- A variable is made. -/
theorem Ws.mk1 {s : Sem Value} (h : Ws w0 W L) (cs : Array Value) (T : TypeId) (hrun : s.run P W = .ok (.pointer (some ⟨W.heap.size, 0, none⟩)) (W.alloc (.cells cs T))) :
    ∃ g W', s.run P W = .ok (.pointer (some ⟨g, 0, none⟩)) W' ∧ Ws w0 W' ((g, T, cs) :: L) ∧ Below W.heap.size W W' ∧ W.heap.size ≤ g := ⟨_, _, hrun, h.alloc cs T, below_alloc (Below.refl _ _) _, Nat.le_refl _⟩
theorem Ws.cell (h : Ws w0 W L) (j : Nat) (hj : L[j]? = some (g, T, cs)) (i : Nat) : W.cell? ⟨g, i, none⟩ = cs[i]? := blk_cell (h.blk j g T cs hj).1 i
/-- One cell is read. -/
theorem Ws.load1 (h : Ws w0 W L) (j : Nat) (hj : L[j]? = some (g, T, cs)) {v : Value} (hv : cs[o]? = some v) (ty : TypeId) (d : TypeDesc) (hu : P.underlying ty = some d) (hd : d.isRow = false) :
    (Instr.loadAt ty (.pointer (some ⟨g, o, none⟩))).run P W = .ok v W := by
  have hc := h.cell j hj o
  rw [hv] at hc
  have hagg : (isAgg ty).run P W = .ok false W := by
    unfold isAgg
    rw [Sem.run_bind, run_underlying hu W]
    cases d <;> simp_all
  simp [Instr.loadAt, Instr.sureAddr, loadVar, Sem.run_bind, hagg, hc]
/-- Some cells are read. -/
theorem Ws.loadN (h : Ws w0 W L) (j : Nat) (hj : L[j]? = some (g, T, cs)) (vs : List Value) (hv : (cs.toList.drop o).take vs.length = vs) (ty : TypeId) (d : TypeDesc) (hu : P.underlying ty = some d) (hd : d.isRow = true) (hi : (P.info? ty).map (·.size) = some vs.length) :
    (Instr.loadAt ty (.pointer (some ⟨g, o, none⟩))).run P W = .ok (.agg vs.toArray) W := by
  refine run_loadAt_mid W g o ty vs d (fun k v hk => ?_) hu hd hi
  rw [h.cell j hj (o + k)]
  rw [← hv, List.getElem?_take] at hk
  split at hk
  · rw [List.getElem?_drop] at hk
    simpa using hk
  · cases hk
theorem Ws.loadA (h : Ws w0 W L) (j : Nat) (hj : L[j]? = some (g, T, cs)) (vs : Array Value) (hv : (cs.toList.drop o).take vs.size = vs.toList) (ty : TypeId) (d : TypeDesc) (hu : P.underlying ty = some d) (hd : d.isRow = true) (hi : (P.info? ty).map (·.size) = some vs.size) :
    (Instr.loadAt ty (.pointer (some ⟨g, o, none⟩))).run P W = .ok (.agg vs) W := by
  have := h.loadN (P := P) (o := o) j hj vs.toList (by simpa using hv) ty d hu hd (by simpa using hi)
  simpa using this
theorem Ws.set (h : Ws w0 W L) (j : Nat) (hj : L[j]? = some (g, T, cs)) (hW : ∀ k, k ≠ g → W'.heap[k]? = W.heap[k]?) (hs : W.heap.size = W'.heap.size) (hB : Below w0.heap.size w0 W') (hg : W'.heap[g]? = some (.cells cs' T (0, 0))) (hL : L.set j (g, T, cs') = L') : Ws w0 W' L' := by
  subst hL
  have hjl := (List.getElem?_eq_some_iff.1 hj).1
  refine ⟨hB, fun i g2 T2 cs2 hi => ?_, fun i i' x y hi hi' he => ?_⟩
  · rw [List.getElem?_set] at hi
    split at hi
    · rename_i hij
      simp only [hjl, if_true, Option.some.injEq, Prod.mk.injEq] at hi
      obtain ⟨rfl, rfl, rfl⟩ := hi
      exact ⟨hg, (h.blk j g T cs hj).2⟩
    · rename_i hij
      have := h.blk i g2 T2 cs2 hi
      refine ⟨(hW g2 (fun e => hij (h.dist j i _ _ hj hi e.symm))).trans this.1, this.2⟩
  · have key : ∀ (i : Nat) (x : Nat × TypeId × Array Value), (L.set j (g, T, cs'))[i]? = some x → ∃ x' : Nat × TypeId × Array Value, L[i]? = some x' ∧ x'.1 = x.1 := by
      intro i x hi
      rw [List.getElem?_set] at hi
      split at hi
      · rename_i hij
        subst hij
        simp only [hjl, if_true, Option.some.injEq] at hi
        exact ⟨_, hj, by rw [← hi]⟩
      · exact ⟨x, hi, rfl⟩
    obtain ⟨x', h1, e1⟩ := key i x hi
    obtain ⟨y', h2, e2⟩ := key i' y hi'
    exact h.dist i i' x' y' h1 h2 (by rw [e1, e2, he])
/-- One cell is written. -/
theorem Ws.store1 (h : Ws w0 W L) (j : Nat) (hj : L[j]? = some (g, T, cs)) (v : Value) (h1 : v.oneCell' = true) (ho : o < cs.size) (hcs : cs.setIfInBounds o v = cs') (hL : L.set j (g, T, cs') = L') (ty : TypeId) (hi : (P.info? ty).map (·.size) = some 1) :
    ∃ W', (Instr.storeAt ty (.pointer (some ⟨g, o, none⟩)) v).run P W = .ok () W' ∧ Ws w0 W' L' ∧ (∀ k, k ≠ g → W'.heap[k]? = W.heap[k]?) ∧ W.heap.size = W'.heap.size := by
  obtain ⟨hb, hge⟩ := h.blk j g T cs hj
  refine ⟨W.setCell ⟨g, o, none⟩ v, ?_, h.set j hj (fun k hk => Below.heap_setCell W ⟨g, o, none⟩ v k hk) (by simp [World.setCell]) (h.below.setCell hge v) (blk_put hb o v hcs) hL, (fun k hk => Below.heap_setCell W ⟨g, o, none⟩ v k hk), by simp [World.setCell]⟩
  have hf : v.cells = #[v] := by cases v <;> first | rfl | (simp [Value.oneCell'] at h1)
  have := run_storeCells_cells (P := P) g o [v] 0 W (fun j hj => by
      have : j = 0 := by simpa using hj
      subst this
      rw [show o + (0 + 0) = o from rfl, blk_cell hb o]
      simp [ho]) (fun j hj => by
      have : j = 0 := by simpa using hj
      subst this
      exact blk_frozen hb o) (fun u hu => by
      have : u = v := by simpa using hu
      subst this
      exact h1)
  cases hq : P.info? ty with
  | none => simp [hq] at hi
  | some i =>
    have hs : 1 = i.size := by simp [hq] at hi; omega
    simp only [Nat.add_zero] at this
    simp [Instr.storeAt, Instr.sureAddr, storeVar, sizeOf, typeInfo, hq, hf, ← hs, this, World.setCells]
/-- Some cells are written. -/
theorem Ws.storeN (h : Ws w0 W L) (j : Nat) (hj : L[j]? = some (g, T, cs)) (vs : Array Value) (h1 : vs.all (·.oneCell') = true) (ho : o + vs.size ≤ cs.size) (hcs : (cs.toList.take o ++ vs.toList ++ cs.toList.drop (o + vs.size)).toArray = cs') (hL : L.set j (g, T, cs') = L') (ty : TypeId) (hi : (P.info? ty).map (·.size) = some vs.size) :
    ∃ W', (Instr.storeAt ty (.pointer (some ⟨g, o, none⟩)) (.agg vs)).run P W = .ok () W' ∧ Ws w0 W' L' ∧ (∀ k, k ≠ g → W'.heap[k]? = W.heap[k]?) ∧ W.heap.size = W'.heap.size := by
  obtain ⟨hb, hge⟩ := h.blk j g T cs hj
  refine ⟨W.setCells g o vs.toList, run_storeAt_mid W g o ty vs (fun k hk => ?_) hi h1, ?_, fun k hk => setCells_far vs.toList o k hk, (setCells_same g vs.toList o W).2.2.2.symm⟩
  · rw [blk_cell hb (o + k), blk_frozen hb]
    have : o + k < cs.size := by omega
    simp [this]
  · obtain ⟨cur, hc, hs, hl⟩ := setCells_row vs.toList o W cs hb (by simpa using ho)
    obtain ⟨s1, s2, s3, s4⟩ := setCells_same g vs.toList o W
    have e : cur = cs' := by
      rw [← hcs, ← Array.toList_inj, hl]
      simp
    subst e
    refine h.set j hj (fun k hk => setCells_far vs.toList o k hk) s4.symm ?_ hc hL
    exact ⟨s1.trans h.below.os, s2.trans h.below.tape, s3.trans h.below.output, by have := h.below.size; omega, fun k hk => by rw [setCells_far vs.toList o k (by omega)]; exact h.below.block k hk⟩
end
/-- A block that was there besides. -/
theorem Ws.add {w0 W : World} {L : List (Nat × TypeId × Array Value)} {g : Nat} {T : TypeId} {cs : Array Value} (h : Ws w0 W L) (hb : W.heap[g]? = some (.cells cs T (0, 0))) (hg : w0.heap.size ≤ g) (hne : ∀ x ∈ L, x.1 ≠ g) : Ws w0 W ((g, T, cs) :: L) := by
  refine ⟨h.below, fun j g' T' cs' hj => ?_, fun i j x y hi hj he => ?_⟩
  · rcases j with _ | j
    · simp only [List.getElem?_cons_zero, Option.some.injEq, Prod.mk.injEq] at hj
      obtain ⟨rfl, rfl, rfl⟩ := hj
      exact ⟨hb, hg⟩
    · exact h.blk j g' T' cs' (by simpa using hj)
  · rcases i with _ | i <;> rcases j with _ | j
    · rfl
    · simp only [List.getElem?_cons_zero, Option.some.injEq] at hi
      subst hi
      exact absurd he.symm (hne y (List.mem_of_getElem? (by simpa using hj)))
    · simp only [List.getElem?_cons_zero, Option.some.injEq] at hj
      subst hj
      exact absurd he (hne x (List.mem_of_getElem? (by simpa using hi)))
    · have := h.dist i j x y (by simpa using hi) (by simpa using hj) he
      omega
/-- What lies from 'base' on, and was there at Wc, is as it was. -/
structure KeepUp (base : Nat) (Wc W : World) : Prop where
  size : Wc.heap.size ≤ W.heap.size
  same : ∀ k, base ≤ k → k < Wc.heap.size → W.heap[k]? = Wc.heap[k]?
section
variable {base g : Nat} {Wc W W' : World}
theorem KeepUp.refl (base : Nat) (W : World) : KeepUp base W W := ⟨Nat.le_refl _, fun _ _ _ => rfl⟩
theorem KeepUp.store (h : KeepUp base Wc W) (hF : (∀ k, k ≠ g → W'.heap[k]? = W.heap[k]?) ∧ W.heap.size = W'.heap.size) (hg : g < base ∨ Wc.heap.size ≤ g) : KeepUp base Wc W' :=
  ⟨by have := h.size; omega, fun k h1 h2 => (hF.1 k (by omega)).trans (h.same k h1 h2)⟩
theorem KeepUp.below (h : KeepUp base Wc W) (hb : Below W.heap.size W W') : KeepUp base Wc W' :=
  ⟨Nat.le_trans h.size hb.size, fun k h1 h2 => (hb.block k (by have := h.size; omega)).trans (h.same k h1 h2)⟩
theorem KeepUp.R {α : Type} {d : Kd α} {e : Nat} {ok : Nat → Prop} {v : Value} {xs : List α} (h : KeepUp base Wc W) (hr : d.R e Wc base ok v xs) : d.R e W base ok v xs :=
  Kd.R_mono (Kd.R_move (Kd.R_bound hr) (fun k hk => h.same k hk.2.1 hk.2.2.1)) (fun k hk => hk.1)
end
theorem wp_mid {P : Program} {c : Code} {Q : Exit → Act → World → Prop} {a : Act} {w : World} {M : Act → World → Prop} (h : c.wp P (Exit.then M (fun _ _ _ => False)) a w) (h2 : ∀ a w, M a w → Q .normal a w) : c.wp P Q a w := by
  refine wp_mono h ?_
  intro e a w hq
  cases e with
  | normal => exact h2 a w hq
  | exit id => exact hq.elim
  | goto l => exact hq.elim
  | ret => exact hq.elim
  | panic ch => exact hq.elim
  | outgrown => exact hq.elim
def skipAct : Nat → List Oper → Act → Act
  | n + 1, o :: r, a => skipAct n r (a.put o.dst undef)
  | _, _, a => a
def allSkip (ops : Array Oper) : Nat → List Oper → Act → Bool
  | 0, _, _ => true
  | n + 1, o :: r, a => !Region.wanted o (yielded ops a.tmps) && allSkip ops n r (a.put o.dst undef)
  | _ + 1, [], _ => false
theorem skips {P : Program} {ops : Array Oper} {w : World} {Q : Exit → Act → World → Prop} : ∀ (n : Nat) (rest : List Oper) (a : Act), allSkip ops n rest a = true → wpList P ops Q (rest.drop n) (skipAct n rest a) w → wpList P ops Q rest a w
  | 0, rest, a, _, h => by
    cases rest with
    | nil => exact h
    | cons o r => exact h
  | n + 1, [], a, hs, _ => by simp [allSkip] at hs
  | n + 1, o :: r, a, hs, h => by
    simp only [allSkip, Bool.and_eq_true, Bool.not_eq_true'] at hs
    refine wpList_step fun K hK => ?_
    rw [hs.1]
    exact hK _ _ (skips n r _ hs.2 h)
/-- One operation, and some behind it that are left out. -/
theorem st_ones {P : Program} {ops : Array Oper} {rest : List Oper} {o : Oper} {a a' a2 : Act} {w w' : World} {Q : Exit → Act → World → Prop} (n : Nat) (v : Value) (hg : Region.wanted o (yielded ops a.tmps) = true)
    (hv : (execOp a.eval o).run P w = .ok (.value v) w') (ha : a.put o.dst v = a') (hs : allSkip ops n rest a' = true) (h2 : skipAct n rest a' = a2) (h : wpList P ops Q (rest.drop n) a2 w') : wpList P ops Q (o :: rest) a w := by
  subst ha
  refine wpList_step fun K hK => ?_
  rw [if_pos hg]
  unfold Oper.wp
  rw [hv, Oper.upon_value]
  subst h2
  exact hK _ _ (skips n rest _ hs h)
theorem lp_next {I : Nat → Act → World → Prop} {Q : Exit → Act → World → Prop} {n : Nat} {a : Act} {w : World} (m : Nat) (h : m < n) (hI : I m a w) : Exit.then (fun a' w' => ∃ n', n' < n ∧ I n' a' w') Q .normal a w := ⟨m, h, hI⟩
theorem st_val {P : Program} {s : Sem Value} {w w' : World} {v : Value} (h : s.run P w = .ok v w') : (do pure (Next.value (← s)) : Sem Next).run P w = .ok (.value v) w' := by
  simp [h]
theorem st_unit {P : Program} {s : Sem Unit} {w w' : World} (h : s.run P w = .ok () w') : (do s; pure Next.skip : Sem Next).run P w = .ok .skip w' := by
  simp [h]
theorem ev1 {P : Program} {w0 W : World} {L : List (Nat × TypeId × Array Value)} (hW : Ws w0 W L) {o : Oper} {a : Act} (j off : Nat) {g : Nat} {T : TypeId} {cs : Array Value} {ty : TypeId} {x : Operand} {v : Value} {d : TypeDesc} (hu : P.underlying ty = some d)
    (hj : L[j]? = some (g, T, cs) := by rfl) (ho : o.op = .load ty x := by rfl) (hx : a.eval x = .pointer (some ⟨g, off, none⟩) := by kernel_rfl) (hv : cs[off]? = some v := by kernel_rfl) (hd : d.isRow = false := by rfl) : (execOp a.eval o).run P W = .ok (.value v) W := by
  unfold execOp
  rw [ho]
  simp only [hx]
  exact st_val (hW.load1 j hj hv ty d hu hd)
theorem evA {P : Program} {w0 W : World} {L : List (Nat × TypeId × Array Value)} (hW : Ws w0 W L) {o : Oper} {a : Act} (j off : Nat) {g : Nat} {T : TypeId} {cs vs : Array Value} {ty : TypeId} {x : Operand} {d : TypeDesc} (hu : P.underlying ty = some d)
    (hj : L[j]? = some (g, T, cs) := by rfl) (ho : o.op = .load ty x := by rfl) (hx : a.eval x = .pointer (some ⟨g, off, none⟩) := by kernel_rfl) (hv : (cs.toList.drop off).take vs.size = vs.toList := by kernel_rfl) (hd : d.isRow = true := by rfl) (hi : (P.info? ty).map (·.size) = some vs.size := by kernel_rfl) : (execOp a.eval o).run P W = .ok (.value (.agg vs)) W := by
  unfold execOp
  rw [ho]
  simp only [hx]
  exact st_val (hW.loadA j hj vs hv ty d hu hd hi)
/-- Does number j wait for number i, by at most n links? -/
def waitsFor (md : Region.Mode) (ops : Array Oper) : Nat → Nat → Nat → Bool
  | 0, _, _ => false
  | n + 1, j, i => ((ops[j]?).map fun o => o.after.any fun e => Region.binds md e && (e.on == i || waitsFor md ops n e.on i)).getD false
def Shutt (md : Region.Mode) (ops : Array Oper) (l : Array Bool) : Prop := ∀ (j : Nat) (o : Oper), ops[j]? = some o → l.getD j false = true → ∀ e ∈ o.after, Region.binds md e = true → l.getD e.on false = true
section
variable {P : Program} {md : Region.Mode} {ops : Array Oper} {Q : Exit → Act → World → Prop} {S : World → Prop} {st : Nat}
theorem waits_not {l : Array Bool} (hc : Shutt md ops l) {i : Nat} (hi : l.getD i false = false) : ∀ (n j : Nat), waitsFor md ops n j i = true → l.getD j false = false ∧ ¬ (∀ (o : Oper), ops[j]? = some o → ∀ e ∈ o.after, Region.binds md e = true → l.getD e.on false = true) := by
  intro n
  induction n with
  | zero => intro j h; simp [waitsFor] at h
  | succ n ih =>
    intro j h
    simp only [waitsFor] at h
    cases ho : ops[j]? with
    | none => rw [ho] at h; simp at h
    | some o =>
      rw [ho] at h
      simp only [Option.map_some, Option.getD_some, Array.any_eq_true] at h
      obtain ⟨k, hk, hb⟩ := h
      simp only [Bool.and_eq_true, Bool.or_eq_true, beq_iff_eq] at hb
      have hm : o.after[k] ∈ o.after := Array.getElem_mem hk
      have hno : l.getD o.after[k].on false = false := by
        rcases hb.2 with h2 | h2
        · rw [h2]; exact hi
        · exact (ih _ h2).1
      refine ⟨?_, fun hall => ?_⟩
      · cases hj : l.getD j false with
        | false => rfl
        | true =>
          have := hc j o ho hj _ hm hb.1
          rw [hno] at this
          cases this
      · have := hall o rfl _ hm hb.1
        rw [hno] at this
        cases this
/-- As the order may be picked; S holds as long as number st has not come up. -/
def wpAnyD (P : Program) (md : Region.Mode) (ops : Array Oper) (Q : Exit → Act → World → Prop) (S : World → Prop) (st : Nat) : Nat → Array Bool → Act → World → Prop
  | 0, listed, a, w => Region.ready md ops listed = [] ∧ Q .normal a w
  | fuel + 1, listed, a, w =>
    (Region.ready md ops listed = [] → Q .normal a w) ∧
    ∀ i ∈ Region.ready md ops listed, wpOp P ops Q i (fun a' w' => ((listed.setIfInBounds i true).getD st false = false → S w') ∧ wpAnyD P md ops Q S st fuel (listed.setIfInBounds i true) a' w') a w
theorem wpAny_of_D : ∀ (fuel : Nat) (listed : Array Bool) (a : Act) (w : World), wpAnyD P md ops Q S st fuel listed a w → wpAny P md ops Q fuel listed a w
  | 0, _, _, _, h => h
  | fuel + 1, _, _, _, h => ⟨h.1, fun i hi => wpOp_mono (fun a' w' h' => wpAny_of_D fuel _ a' w' h'.2) (h.2 i hi)⟩
theorem getD_true_of {l : Array Bool} {i : Nat} (h : l.getD i true = false) : l.getD i false = false := by
  rcases Nat.lt_or_ge i l.size with h' | h'
  · simpa [h'] using h
  · simp [Array.getElem?_eq_none h'] at h
theorem shut_set {l : Array Bool} (hc : Shutt md ops l) {j : Nat} (hj : j ∈ Region.ready md ops l) : Shutt md ops (l.setIfInBounds j true) := by
  intro k o ho hk e he hb
  obtain ⟨hu, oj, hoj, hall⟩ := mem_ready.1 hj
  by_cases hkj : j = k
  · subst hkj
    rw [hoj] at ho
    cases ho
    exact getD_set_true (hall e he hb)
  · rw [getD_set_ne false hkj] at hk
    exact getD_set_true (hc k o ho hk e he hb)
theorem wpAnyD_first {i n : Nat} {oi : Oper} {v : Value} (hi : ops[i]? = some oi) (hsel : ∀ (j : Nat) (o : Oper) cs b, ops[j]? = some o → o.op ≠ .select cs b)
    (hQ : ∀ c a w, Q (.panic c) (a.put oi.dst v) w → Q (.panic c) a w) (hp : waitsFor md ops n st i = true) :
    ∀ (fuel : Nat) (listed : Array Bool) (a : Act) (w : World), Shutt md ops listed →
      (∀ j oj, ops[j]? = some oj → j ≠ i → listed.getD j true = false → (∀ e ∈ oj.after, Region.binds md e = true → e.on ≠ i) → oi.apart ops oj = true) →
      i ∈ Region.ready md ops listed → YieldsIf P ops S oi v a → S w →
      wpAnyD P md ops Q S st fuel (listed.setIfInBounds i true) (a.put oi.dst v) w → wpAnyD P md ops Q S st (fuel + 1) listed a w := by
  intro fuel
  induction fuel with
  | zero =>
    intro listed a w hc _ hr hy hS H
    refine ⟨fun h => (by rw [h] at hr; cases hr), fun j hj => ?_⟩
    by_cases hji : j = i
    · subst hji
      exact hy.wpOp hi hS ⟨fun _ => hS, H⟩
    · have := ready_mono hj hji
      rw [H.1] at this
      cases this
  | succ fuel ih =>
    intro listed a w hc hfree hr hy hS H
    refine ⟨fun h => (by rw [h] at hr; cases hr), fun j hj => ?_⟩
    by_cases hji : j = i
    · subst hji
      exact hy.wpOp hi hS ⟨fun _ => hS, H⟩
    · have h1 := H.2 j (ready_mono hj hji)
      have hiun : listed.getD i false = false := getD_true_of (mem_ready.1 hr).1
      obtain ⟨hjun, oj, hoj, hall⟩ := mem_ready.1 hj
      obtain ⟨hst, hstn⟩ := waits_not hc hiun n st hp
      have hjst : j ≠ st := by
        rintro rfl
        exact hstn (fun o ho => by rw [hoj] at ho; cases ho; exact hall)
      have hnot : ∀ e ∈ oj.after, Region.binds md e = true → e.on ≠ i := fun e he hb heq => by
        have h2 := hall e he hb
        rw [heq, hiun] at h2
        cases h2
      have h2 := wpOp_putIf hoj (hfree j oj hoj hji hjun hnot) (fun cs b => hsel i oi cs b hi) (fun cs b => hsel j oj cs b hoj) hQ hy h1
      have hfree' : ∀ k ok, ops[k]? = some ok → k ≠ i → (listed.setIfInBounds j true).getD k true = false →
          (∀ e ∈ ok.after, Region.binds md e = true → e.on ≠ i) → oi.apart ops ok = true := fun k ok hk hki hun hno => by
        refine hfree k ok hk hki ?_ hno
        by_cases hjk : j = k
        · subst hjk; exact hjun
        · rw [getD_set_ne true hjk] at hun; exact hun
      have hstj : ((listed.setIfInBounds i true).setIfInBounds j true).getD st false = false := by
        rw [getD_set_ne false hjst, getD_set_ne false (fun e => ?_)]
        · exact hst
        · subst e
          exact absurd hp (fun hp' => (waits_not hc hiun n i hp').2 (fun o ho => by
            obtain ⟨_, o', ho', hall'⟩ := mem_ready.1 hr
            rw [ho] at ho'
            cases ho'
            exact hall'))
      refine wpOp_mono (fun a' w' h3 => ⟨fun _ => h3.2.1 hstj, ih (listed.setIfInBounds j true) a' w' (shut_set hc hj) hfree' (ready_mono hr (Ne.symm hji)) h3.1 (h3.2.1 hstj) ?_⟩) h2
      rw [Array.setIfInBounds_comm _ _ hji]
      exact h3.2.2
/-- The listed ones' links, checked. -/
def shutB (md : Region.Mode) (ops : Array Oper) (l : Array Bool) : Bool := (List.range ops.size).all fun j => !l.getD j false || ((ops[j]?).map fun o => o.after.all fun e => !Region.binds md e || l.getD e.on false).getD true
theorem shutB_spec {l : Array Bool} (h : shutB md ops l = true) : Shutt md ops l := by
  intro j o ho hj e he hb
  have hlt : j < ops.size := (Array.getElem?_eq_some_iff.1 ho).1
  have := List.all_eq_true.1 h j (List.mem_range.2 hlt)
  rw [ho, hj] at this
  simp only [Bool.not_true, Bool.false_or, Option.map_some, Option.getD_some, Array.all_eq_true_iff_forall_mem] at this
  have := this e he
  rw [hb] at this
  simpa using this
theorem dd_begin {id : Nat} {a : Act} {w : World} (st : Nat) (S : World → Prop) (hm : P.follows .mixedOrders = true) (h : wpAnyD P .any ops Q S st ops.size (Array.replicate ops.size false) a w.drew) : (Code.region id ops true).wp P Q a w :=
  wp_region_any hm (wpAny_of_D _ _ _ _ h)
theorem dd_one {fuel : Nat} {listed : Array Bool} {a a' : Act} {w : World} (i : Nat) {o : Oper} (v : Value) (hi : ops[i]? = some o)
    (hs : Region.noSelect ops = true) (hf : Region.free md ops listed i = true) (hr : (Region.ready md ops listed).contains i = true) (hQ : ∀ c a w, Q (.panic c) (a.put o.dst v) w → Q (.panic c) a w)
    (hp : waitsFor md ops ops.size st i = true) (hc : shutB md ops listed = true)
    (hg : Region.wanted o (yielded ops a.tmps) = true) (hv : ∀ W, S W → (execOp a.eval o).run P W = .ok (.value v) W) (hS : S w) (ha : a.put o.dst v = a')
    (h : wpAnyD P md ops Q S st fuel (listed.setIfInBounds i true) a' w) : wpAnyD P md ops Q S st (fuel + 1) listed a w := by
  subst ha
  exact wpAnyD_first hi (Region.noSelect_spec hs) hQ hp fuel listed a w (shutB_spec hc) (Region.free_spec hi hf) (by simpa using hr) (.inl ⟨hg, hv⟩) hS h
/-- Whichever comes up next. -/
theorem dd_ready {fuel : Nat} {listed : Array Bool} {a : Act} {w : World} (rs : List Nat) (hr : Region.ready md ops listed = rs) (hne : rs.isEmpty = false)
    (h : ∀ i ∈ rs, wpOp P ops Q i (fun a' w' => ((listed.setIfInBounds i true).getD st false = false → S w') ∧ wpAnyD P md ops Q S st fuel (listed.setIfInBounds i true) a' w') a w) : wpAnyD P md ops Q S st (fuel + 1) listed a w :=
  ⟨fun h0 => (by rw [hr] at h0; subst h0; cases hne), hr ▸ h⟩
theorem dd_done {listed : Array Bool} {a : Act} {w : World} (hr : Region.ready md ops listed = []) (h : Q .normal a w) : ∀ fuel, wpAnyD P md ops Q S st fuel listed a w
  | 0 => ⟨hr, h⟩
  | _ + 1 => ⟨fun _ => h, by rw [hr]; simp⟩
theorem op_val {i : Nat} {o : Oper} {a a' : Act} {w w' : World} {K : Act → World → Prop} (v : Value) (hi : ops[i]? = some o) (hg : Region.wanted o (yielded ops a.tmps) = true) (hv : (execOp a.eval o).run P w = .ok (.value v) w') (ha : a.put o.dst v = a') (h : K a' w') : wpOp P ops Q i K a w := by
  subst ha
  refine wpOp_step hi fun K' hK => ?_
  rw [if_pos hg]
  unfold Oper.wp
  rw [hv, Oper.upon_value]
  exact hK _ _ h
theorem op_none {i : Nat} {o : Oper} {a a' : Act} {w w' : World} {K : Act → World → Prop} (hi : ops[i]? = some o) (hg : Region.wanted o (yielded ops a.tmps) = true) (hv : (execOp a.eval o).run P w = .ok .skip w') (ha : a.put o.dst undef = a') (h : K a' w') : wpOp P ops Q i K a w := by
  subst ha
  refine wpOp_step hi fun K' hK => ?_
  rw [if_pos hg]
  unfold Oper.wp
  rw [hv, Oper.upon_skip]
  exact hK _ _ h
theorem op_skip {i : Nat} {o : Oper} {a a' : Act} {w : World} {K : Act → World → Prop} (hi : ops[i]? = some o) (hg : Region.wanted o (yielded ops a.tmps) = false) (ha : a.put o.dst undef = a') (h : K a' w) : wpOp P ops Q i K a w := by
  subst ha
  refine wpOp_step hi fun K' hK => ?_
  rw [hg]
  exact hK _ _ h
theorem op_call {i : Nat} {o : Oper} {a : Act} {w : World} {K : Act → World → Prop} {f : FuncId} {args : Array Value} {R : Ending → World → Prop} (hi : ops[i]? = some o) (hc : Calls P f args w R) (hg : Region.wanted o (yielded ops a.tmps) = true) (hv : (execOp a.eval o).run P w = .ok (.enter f args) w)
    (h : ∀ e w', R e w' → ∃ v a', e = .returned v ∧ a.put o.dst v = a' ∧ K a' w') : wpOp P ops Q i K a w := by
  refine wpOp_step hi fun K' hK => ?_
  rw [if_pos hg]
  unfold Oper.wp
  rw [hv, Oper.upon_enter]
  refine hc.mono ?_
  intro e w' hR
  obtain ⟨v, a', rfl, rfl, hw⟩ := h e w' hR
  exact hK _ _ hw
theorem all_cons {p : Nat → Prop} {i : Nat} {l : List Nat} (h : p i) (hl : ∀ j ∈ l, p j) : ∀ j ∈ i :: l, p j := by
  intro j hj
  rcases List.mem_cons.1 hj with rfl | hj
  · exact h
  · exact hl j hj
theorem all_nil {p : Nat → Prop} : ∀ j ∈ ([] : List Nat), p j := fun j hj => by cases hj
end
end Go.Proofs.Ythllggfimndklac.Or
