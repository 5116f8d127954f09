/- What walks by single operations lean on, and what threads are as values. No condition beside those that each theorem names. -/
import Derived.Test.YthcmcekjgecnhaaTlQ
import Derived.OpenShut
namespace Go.Proofs.Ythcmcekjgecnhaa.Th
open Go.RowKit Go.Proofs.YthcmcekjgecnhaaW.PrintWords Go.Proofs.YthcmcekjgecnhaaW.PrintLast
open Go.Proofs.YthcmcekjgecnhaaW.HWords Go.Proofs.Ythcmcekjgecnhaa.QThreadLocals
set_option linter.unusedVariables false
set_option linter.unusedSimpArgs false
theorem st_one {P : Program} {ops : Array Oper} {rest : List Oper} {o : Oper} {a a' : Act} {w w' : World} {Q : Exit → Act → World → Prop} (v : Value) (hg : Region.wanted o (yielded ops a.tmps) = true)
    (hv : (execOp a.eval o).run P w = .ok (.value v) w') (ha : a.put o.dst v = a') (h : wpList P ops Q rest a' w') : wpList P ops Q (o :: rest) a w := by
  subst ha
  refine wpList_step fun K hK => ?_
  rw [if_pos hg]
  unfold Oper.wp
  rw [hv, Oper.upon_value]
  exact hK _ _ h
theorem sk {P : Program} {ops : Array Oper} {rest : List Oper} {o : Oper} {a a' : Act} {w : World} {Q : Exit → Act → World → Prop} (v : Value) (h : wpList P ops Q rest a' w) (hg : Region.wanted o (yielded ops a.tmps) = true := by kernel_rfl)
    (hv : (execOp a.eval o).run P w = .ok (.value v) w := by kernel_rfl) (ha : a.put o.dst v = a' := by kernel_rfl) : wpList P ops Q (o :: rest) a w := st_one v hg hv ha h
theorem se {P : Program} {ops : Array Oper} {rest : List Oper} {o : Oper} {a a' : Act} {w w' : World} {Q : Exit → Act → World → Prop} (v : Value) (hv : (execOp a.eval o).run P w = .ok (.value v) w') (h : wpList P ops Q rest a' w') (hg : Region.wanted o (yielded ops a.tmps) = true := by kernel_rfl)
    (ha : a.put o.dst v = a' := by kernel_rfl) : wpList P ops Q (o :: rest) a w := st_one v hg hv ha h
theorem skp {P : Program} {ops : Array Oper} {rest : List Oper} {o : Oper} {a : Act} {w : World} {Q : Exit → Act → World → Prop} (v : Value) (h : wpList P ops Q rest (a.put o.dst v) w) (hg : Region.wanted o (yielded ops a.tmps) = true := by kernel_rfl)
    (hv : (execOp a.eval o).run P w = .ok (.value v) w := by kernel_rfl) : wpList P ops Q (o :: rest) a w := st_one v hg hv rfl h
theorem sep {P : Program} {ops : Array Oper} {rest : List Oper} {o : Oper} {a : Act} {w w' : World} {Q : Exit → Act → World → Prop} (v : Value) (hv : (execOp a.eval o).run P w = .ok (.value v) w') (h : wpList P ops Q rest (a.put o.dst v) w') (hg : Region.wanted o (yielded ops a.tmps) = true := by kernel_rfl) : wpList P ops Q (o :: rest) a w := st_one v hg hv rfl h
theorem st_none {P : Program} {ops : Array Oper} {rest : List Oper} {o : Oper} {a a' : Act} {w w' : World} {Q : Exit → Act → World → Prop} (hg : Region.wanted o (yielded ops a.tmps) = true)
    (hv : (execOp a.eval o).run P w = .ok .skip w') (ha : a.put o.dst undef = a') (h : wpList P ops Q rest a' w') : wpList P ops Q (o :: rest) a w := by
  subst ha
  refine wpList_step fun K hK => ?_
  rw [if_pos hg]
  unfold Oper.wp
  rw [hv, Oper.upon_skip]
  exact hK _ _ h
theorem st_skip {P : Program} {ops : Array Oper} {rest : List Oper} {o : Oper} {a a' : Act} {w : World} {Q : Exit → Act → World → Prop} (hg : Region.wanted o (yielded ops a.tmps) = false)
    (ha : a.put o.dst undef = a') (h : wpList P ops Q rest a' w) : wpList P ops Q (o :: rest) a w := by
  subst ha
  refine wpList_step fun K hK => ?_
  rw [hg]
  exact hK _ _ h
theorem st_call {P : Program} {ops : Array Oper} {rest : List Oper} {o : Oper} {a : Act} {w : World} {Q : Exit → Act → World → Prop} {f : FuncId} {args : Array Value} {R : Ending → World → Prop} (hc : Calls P f args w R) (hg : Region.wanted o (yielded ops a.tmps) = true)
    (hv : (execOp a.eval o).run P w = .ok (.enter f args) w) (h : ∀ e w', R e w' → ∃ v a', e = .returned v ∧ a.put o.dst v = a' ∧ wpList P ops Q rest a' w') : wpList P ops Q (o :: rest) a w := by
  refine wpList_step fun K hK => ?_
  rw [if_pos hg]
  unfold Oper.wp
  rw [hv, Oper.upon_enter]
  refine hc.mono ?_
  intro e w' hR
  obtain ⟨v, a', rfl, rfl, hw⟩ := h e w' hR
  exact hK _ _ hw
theorem st_ok {w : World} {b c : Bool} (h : b = c) : (Result.ok (Next.value (.bool b)) w : Result Next) = .ok (.value (.bool c)) w := by rw [h]
theorem dr_one {P : Program} {md : Region.Mode} {ops : Array Oper} {Q : Exit → Act → World → Prop} {S : World → Prop} {fuel : Nat} {listed : Array Bool} {a a' : Act} {w : World} (i : Nat) {o : Oper} (v : Value) (hi : ops[i]? = some o)
    (hs : Region.noSelect ops = true) (hf : Region.free md ops listed i = true) (hr : (Region.ready md ops listed).contains i = true) (hQ : ∀ c a w, Q (.panic c) (a.put o.dst v) w → Q (.panic c) a w)
    (hg : Region.wanted o (yielded ops a.tmps) = true) (hv : ∀ W, S W → (execOp a.eval o).run P W = .ok (.value v) W) (hS : S w) (ha : a.put o.dst v = a')
    (h : wpAnyH P md ops Q S fuel (listed.setIfInBounds i true) a' w) : wpAnyH P md ops Q S (fuel + 1) listed a w := by
  subst ha
  exact wpAnyH_take hi hs hf hr hQ (.inl ⟨hg, hv⟩) hS h
theorem dk {P : Program} {md : Region.Mode} {ops : Array Oper} {Q : Exit → Act → World → Prop} {S : World → Prop} {fuel : Nat} {listed : Array Bool} {a a' : Act} {w : World} {o : Oper} (i : Nat) (v : Value) (hS : S w)
    (h : wpAnyH P md ops Q S fuel (listed.setIfInBounds i true) a' w) (hi : ops[i]? = some o := by rfl) (hs : Region.noSelect ops = true := by kernel_rfl) (hf : Region.free md ops listed i = true := by kernel_rfl) (hr : (Region.ready md ops listed).contains i = true := by kernel_rfl) (hQ : ∀ c a w, Q (.panic c) (a.put o.dst v) w → Q (.panic c) a w := by exact fun _ _ _ h => h)
    (hg : Region.wanted o (yielded ops a.tmps) = true := by kernel_rfl) (hv : ∀ W, S W → (execOp a.eval o).run P W = .ok (.value v) W := by exact fun W hH => by kernel_rfl) (ha : a.put o.dst v = a' := by kernel_rfl) : wpAnyH P md ops Q S (fuel + 1) listed a w := dr_one i v hi hs hf hr hQ hg hv hS ha h
theorem de {P : Program} {md : Region.Mode} {ops : Array Oper} {Q : Exit → Act → World → Prop} {S : World → Prop} {fuel : Nat} {listed : Array Bool} {a a' : Act} {w : World} {o : Oper} (i : Nat) (v : Value) (hi : ops[i]? = some o) (hv : ∀ W, S W → (execOp a.eval o).run P W = .ok (.value v) W) (hS : S w)
    (h : wpAnyH P md ops Q S fuel (listed.setIfInBounds i true) a' w) (hs : Region.noSelect ops = true := by kernel_rfl) (hf : Region.free md ops listed i = true := by kernel_rfl) (hr : (Region.ready md ops listed).contains i = true := by kernel_rfl) (hQ : ∀ c a w, Q (.panic c) (a.put o.dst v) w → Q (.panic c) a w := by exact fun _ _ _ h => h)
    (hg : Region.wanted o (yielded ops a.tmps) = true := by kernel_rfl) (ha : a.put o.dst v = a' := by kernel_rfl) : wpAnyH P md ops Q S (fuel + 1) listed a w := dr_one i v hi hs hf hr hQ hg hv hS ha h
theorem dr_skip {P : Program} {md : Region.Mode} {ops : Array Oper} {Q : Exit → Act → World → Prop} {S : World → Prop} {fuel : Nat} {listed : Array Bool} {a a' : Act} {w : World} (i : Nat) {o : Oper} (hi : ops[i]? = some o)
    (hs : Region.noSelect ops = true) (hf : Region.free md ops listed i = true) (hr : (Region.ready md ops listed).contains i = true) (hQ : ∀ c a w, Q (.panic c) (a.put o.dst undef) w → Q (.panic c) a w)
    (hg : Region.wanted o (yielded ops a.tmps) = false) (hS : S w) (ha : a.put o.dst undef = a')
    (h : wpAnyH P md ops Q S fuel (listed.setIfInBounds i true) a' w) : wpAnyH P md ops Q S (fuel + 1) listed a w := by
  subst ha
  exact wpAnyH_take hi hs hf hr hQ (.inr ⟨hg, rfl⟩) hS h
theorem dr_here {P : Program} {md : Region.Mode} {ops : Array Oper} {Q : Exit → Act → World → Prop} {S : World → Prop} {fuel : Nat} {listed : Array Bool} {a a' : Act} {w w' : World} (i : Nat) {o : Oper} (v : Value) (hi : ops[i]? = some o)
    (hr : Region.ready md ops listed = [i]) (hg : Region.wanted o (yielded ops a.tmps) = true) (hv : (execOp a.eval o).run P w = .ok (.value v) w') (ha : a.put o.dst v = a') (hS : S w')
    (h : wpAnyH P md ops Q S fuel (listed.setIfInBounds i true) a' w') : wpAnyH P md ops Q S (fuel + 1) listed a w := by
  subst ha
  refine wpAnyH_ready hr (by simp) (AllReadyH.cons hi (fun K hK => ?_) AllReadyH.nil)
  rw [if_pos hg]
  unfold Oper.wp
  rw [hv, Oper.upon_value]
  exact hK.out _ _ hS (fun _ => h)
theorem dr_call {P : Program} {md : Region.Mode} {ops : Array Oper} {Q : Exit → Act → World → Prop} {S : World → Prop} {fuel : Nat} {listed : Array Bool} {a : Act} {w : World} {f : FuncId} {args : Array Value} {R : Ending → World → Prop} (i : Nat) {o : Oper} (hi : ops[i]? = some o)
    (hr : Region.ready md ops listed = [i]) (hc : Calls P f args w R) (hg : Region.wanted o (yielded ops a.tmps) = true) (hv : (execOp a.eval o).run P w = .ok (.enter f args) w)
    (h : ∀ e w', R e w' → ∃ v a', e = .returned v ∧ a.put o.dst v = a' ∧ S w' ∧ wpAnyH P md ops Q S fuel (listed.setIfInBounds i true) a' w') : wpAnyH P md ops Q S (fuel + 1) listed a w := by
  refine wpAnyH_ready hr (by simp) (AllReadyH.cons hi (fun K hK => ?_) AllReadyH.nil)
  rw [if_pos hg]
  unfold Oper.wp
  rw [hv, Oper.upon_enter]
  refine hc.mono ?_
  intro e w' hR
  obtain ⟨v, a', rfl, rfl, hS, hw⟩ := h e w' hR
  exact hK.out _ _ hS (fun _ => hw)
theorem dr_string {W : World} {s u : ByteArray} (h : s = u) {b : Bool} (hb : b = true) : (Result.ok (Next.value (.bool (s.toList == u.toList))) W : Result Next) = .ok (.value (.bool b)) W := by
  subst h
  subst hb
  simp
def zz : Value := undef
/-- A state: some slots are other than in a row of values. -/
def up (b : List Value) (ps : List (Nat × Value)) : Act := ⟨(ps.foldl (fun l p => l.set p.1 p.2) b).toArray, []⟩
/-- The blocks that a walk has made: each with its type and cells. -/
structure Ws (w0 W : World) (L : List (Nat × TypeId × Array Value)) : Prop where
  below : Below w0.heap.size w0 W
  blk : ∀ (j g : Nat) (T : TypeId) (cs : Array Value), L[j]? = some (g, T, cs) → W.heap[g]? = some (.cells cs T (0, 0)) ∧ w0.heap.size ≤ g
  dist : ∀ (i j : Nat) x y, L[i]? = some x → L[j]? = some y → x.1 = y.1 → i = j
theorem Ws.nil (w : World) : Ws w w [] := ⟨Below.refl _ _, fun j g T cs h => by simp at h, fun i j x y h => by simp at h⟩
theorem Ws.ofBelow {w W : World} (h : Below w.heap.size w W) : Ws w W [] := ⟨h, fun j g T cs h => by simp at h, fun i j x y h => by simp at h⟩
section
variable {P : Program} {w0 W W' : World} {L L' : List (Nat × TypeId × Array Value)} {g o : Nat} {T : TypeId} {cs cs' : Array Value}
theorem Ws.step (h : Ws w0 W L) (hb : Below W.heap.size W W') : Ws w0 W' L :=
  ⟨below_step h.below hb, fun j g T cs hj => ⟨blk_below (h.blk j g T cs hj).1 hb, (h.blk j g T cs hj).2⟩, h.dist⟩
theorem Ws.drew (h : Ws w0 W L) : Ws w0 W.drew L := h.step (below_drew (Below.refl _ _))
theorem Ws.swap {x y} (h : Ws w0 W (x :: y :: L)) : Ws w0 W (y :: x :: L) := by
  refine ⟨h.below, fun j g T cs hj => ?_, fun i j u v hi hj he => ?_⟩
  · rcases j with _ | _ | j
    · exact h.blk 1 g T cs hj
    · exact h.blk 0 g T cs hj
    · exact h.blk (j + 2) g T cs hj
  · rcases i with _ | _ | i <;> rcases j with _ | _ | j
    · rfl
    · have := h.dist 1 0 u v hi hj he; omega
    · have := h.dist 1 (j + 2) u v hi hj he; omega
    · have := h.dist 0 1 u v hi hj he; omega
    · rfl
    · have := h.dist 0 (j + 2) u v hi hj he; omega
    · have := h.dist (i + 2) 1 u v hi hj he; omega
    · have := h.dist (i + 2) 0 u v hi hj he; omega
    · have := h.dist (i + 2) (j + 2) u v hi hj he; omega
theorem Ws.tail {x} (h : Ws w0 W (x :: L)) : Ws w0 W L :=
  ⟨h.below, fun j g T cs hj => h.blk (j + 1) g T cs hj, fun i j u v hi hj he => by have := h.dist (i + 1) (j + 1) u v hi hj he; omega⟩
theorem Ws.alloc (h : Ws w0 W L) (cs : Array Value) (T : TypeId) : Ws w0 (W.alloc (.cells cs T)) ((W.heap.size, T, cs) :: L) := by
  refine ⟨below_alloc h.below _, fun j g T' cs' hj => ?_, fun i j x y hi hj he => ?_⟩
  · rcases j with _ | j
    · simp only [List.getElem?_cons_zero, Option.some.injEq, Prod.mk.injEq] at hj
      obtain ⟨rfl, rfl, rfl⟩ := hj
      exact ⟨blk_new _ _, h.below.size⟩
    · have := h.blk j g T' cs' (by simpa using hj)
      exact ⟨blk_alloc this.1 _, this.2⟩
  · rcases i with _ | i <;> rcases j with _ | j
    · rfl
    · obtain ⟨y1, y2, y3⟩ := y
      have := blk_lt (h.blk j y1 y2 y3 (by simpa using hj)).1
      simp only [List.getElem?_cons_zero, Option.some.injEq] at hi
      subst hi
      simp at he
      omega
    · obtain ⟨y1, y2, y3⟩ := x
      have := blk_lt (h.blk i y1 y2 y3 (by simpa using hi)).1
      simp only [List.getElem?_cons_zero, Option.some.injEq] at hj
      subst hj
      simp at he
      omega
    · have := h.dist i j x y (by simpa using hi) (by simpa using hj) he
      omega
/-- A variable is made. -/
theorem Ws.mk1 {s : Sem Value} (h : Ws w0 W L) (cs : Array Value) (T : TypeId) (hrun : s.run P W = .ok (.pointer (some ⟨W.heap.size, 0, none⟩)) (W.alloc (.cells cs T))) :
    ∃ g W', s.run P W = .ok (.pointer (some ⟨g, 0, none⟩)) W' ∧ Ws w0 W' ((g, T, cs) :: L) ∧ Below W.heap.size W W' ∧ W.heap.size ≤ g := ⟨_, _, hrun, h.alloc cs T, below_alloc (Below.refl _ _) _, Nat.le_refl _⟩
theorem Ws.cell (h : Ws w0 W L) (j : Nat) (hj : L[j]? = some (g, T, cs)) (i : Nat) : W.cell? ⟨g, i, none⟩ = cs[i]? := blk_cell (h.blk j g T cs hj).1 i
/-- One cell is read. -/
theorem Ws.load1 (h : Ws w0 W L) (j : Nat) (hj : L[j]? = some (g, T, cs)) {v : Value} (hv : cs[o]? = some v) (ty : TypeId) (d : TypeDesc) (hu : P.underlying ty = some d) (hd : d.isRow = false) :
    (Instr.loadAt ty (.pointer (some ⟨g, o, none⟩))).run P W = .ok v W := by
  have hc := h.cell j hj o
  rw [hv] at hc
  have hagg : (isAgg ty).run P W = .ok false W := by
    unfold isAgg
    rw [Sem.run_bind, run_underlying hu W]
    cases d <;> simp_all
  simp [Instr.loadAt, Instr.sureAddr, loadVar, Sem.run_bind, hagg, hc]
/-- Some cells are read. -/
theorem Ws.loadN (h : Ws w0 W L) (j : Nat) (hj : L[j]? = some (g, T, cs)) (vs : List Value) (hv : (cs.toList.drop o).take vs.length = vs) (ty : TypeId) (d : TypeDesc) (hu : P.underlying ty = some d) (hd : d.isRow = true) (hi : (P.info? ty).map (·.size) = some vs.length) :
    (Instr.loadAt ty (.pointer (some ⟨g, o, none⟩))).run P W = .ok (.agg vs.toArray) W := by
  refine run_loadAt_mid W g o ty vs d (fun k v hk => ?_) hu hd hi
  rw [h.cell j hj (o + k)]
  rw [← hv, List.getElem?_take] at hk
  split at hk
  · rw [List.getElem?_drop] at hk
    simpa using hk
  · cases hk
theorem Ws.loadA (h : Ws w0 W L) (j : Nat) (hj : L[j]? = some (g, T, cs)) (vs : Array Value) (hv : (cs.toList.drop o).take vs.size = vs.toList) (ty : TypeId) (d : TypeDesc) (hu : P.underlying ty = some d) (hd : d.isRow = true) (hi : (P.info? ty).map (·.size) = some vs.size) :
    (Instr.loadAt ty (.pointer (some ⟨g, o, none⟩))).run P W = .ok (.agg vs) W := by
  have := h.loadN (P := P) (o := o) j hj vs.toList (by simpa using hv) ty d hu hd (by simpa using hi)
  simpa using this
theorem Ws.set (h : Ws w0 W L) (j : Nat) (hj : L[j]? = some (g, T, cs)) (hW : ∀ k, k ≠ g → W'.heap[k]? = W.heap[k]?) (hs : W.heap.size = W'.heap.size) (hB : Below w0.heap.size w0 W') (hg : W'.heap[g]? = some (.cells cs' T (0, 0))) (hL : L.set j (g, T, cs') = L') : Ws w0 W' L' := by
  subst hL
  have hjl := (List.getElem?_eq_some_iff.1 hj).1
  refine ⟨hB, fun i g2 T2 cs2 hi => ?_, fun i i' x y hi hi' he => ?_⟩
  · rw [List.getElem?_set] at hi
    split at hi
    · rename_i hij
      simp only [hjl, if_true, Option.some.injEq, Prod.mk.injEq] at hi
      obtain ⟨rfl, rfl, rfl⟩ := hi
      exact ⟨hg, (h.blk j g T cs hj).2⟩
    · rename_i hij
      have := h.blk i g2 T2 cs2 hi
      refine ⟨(hW g2 (fun e => hij (h.dist j i _ _ hj hi e.symm))).trans this.1, this.2⟩
  · have key : ∀ (i : Nat) (x : Nat × TypeId × Array Value), (L.set j (g, T, cs'))[i]? = some x → ∃ x' : Nat × TypeId × Array Value, L[i]? = some x' ∧ x'.1 = x.1 := by
      intro i x hi
      rw [List.getElem?_set] at hi
      split at hi
      · rename_i hij
        subst hij
        simp only [hjl, if_true, Option.some.injEq] at hi
        exact ⟨_, hj, by rw [← hi]⟩
      · exact ⟨x, hi, rfl⟩
    obtain ⟨x', h1, e1⟩ := key i x hi
    obtain ⟨y', h2, e2⟩ := key i' y hi'
    exact h.dist i i' x' y' h1 h2 (by rw [e1, e2, he])
/-- One cell is written. -/
theorem Ws.store1 (h : Ws w0 W L) (j : Nat) (hj : L[j]? = some (g, T, cs)) (v : Value) (h1 : v.oneCell' = true) (ho : o < cs.size) (hcs : cs.setIfInBounds o v = cs') (hL : L.set j (g, T, cs') = L') (ty : TypeId) (hi : (P.info? ty).map (·.size) = some 1) :
    ∃ W', (Instr.storeAt ty (.pointer (some ⟨g, o, none⟩)) v).run P W = .ok () W' ∧ Ws w0 W' L' ∧ (∀ k, k ≠ g → W'.heap[k]? = W.heap[k]?) ∧ W.heap.size = W'.heap.size := by
  obtain ⟨hb, hge⟩ := h.blk j g T cs hj
  refine ⟨W.setCell ⟨g, o, none⟩ v, ?_, h.set j hj (fun k hk => Below.heap_setCell W ⟨g, o, none⟩ v k hk) (by simp [World.setCell]) (h.below.setCell hge v) (blk_put hb o v hcs) hL, (fun k hk => Below.heap_setCell W ⟨g, o, none⟩ v k hk), by simp [World.setCell]⟩
  have hf : v.cells = #[v] := by cases v <;> first | rfl | (simp [Value.oneCell'] at h1)
  have := run_storeCells_cells (P := P) g o [v] 0 W (fun j hj => by
      have : j = 0 := by simpa using hj
      subst this
      rw [show o + (0 + 0) = o from rfl, blk_cell hb o]
      simp [ho]) (fun j hj => by
      have : j = 0 := by simpa using hj
      subst this
      exact blk_frozen hb o) (fun u hu => by
      have : u = v := by simpa using hu
      subst this
      exact h1)
  cases hq : P.info? ty with
  | none => simp [hq] at hi
  | some i =>
    have hs : 1 = i.size := by simp [hq] at hi; omega
    simp only [Nat.add_zero] at this
    simp [Instr.storeAt, Instr.sureAddr, storeVar, sizeOf, typeInfo, hq, hf, ← hs, this, World.setCells]
/-- Some cells are written. -/
theorem Ws.storeN (h : Ws w0 W L) (j : Nat) (hj : L[j]? = some (g, T, cs)) (vs : Array Value) (h1 : vs.all (·.oneCell') = true) (ho : o + vs.size ≤ cs.size) (hcs : (cs.toList.take o ++ vs.toList ++ cs.toList.drop (o + vs.size)).toArray = cs') (hL : L.set j (g, T, cs') = L') (ty : TypeId) (hi : (P.info? ty).map (·.size) = some vs.size) :
    ∃ W', (Instr.storeAt ty (.pointer (some ⟨g, o, none⟩)) (.agg vs)).run P W = .ok () W' ∧ Ws w0 W' L' ∧ (∀ k, k ≠ g → W'.heap[k]? = W.heap[k]?) ∧ W.heap.size = W'.heap.size := by
  obtain ⟨hb, hge⟩ := h.blk j g T cs hj
  refine ⟨W.setCells g o vs.toList, run_storeAt_mid W g o ty vs (fun k hk => ?_) hi h1, ?_, fun k hk => setCells_far vs.toList o k hk, (setCells_same g vs.toList o W).2.2.2.symm⟩
  · rw [blk_cell hb (o + k), blk_frozen hb]
    have : o + k < cs.size := by omega
    simp [this]
  · obtain ⟨cur, hc, hs, hl⟩ := setCells_row vs.toList o W cs hb (by simpa using ho)
    obtain ⟨s1, s2, s3, s4⟩ := setCells_same g vs.toList o W
    have e : cur = cs' := by
      rw [← hcs, ← Array.toList_inj, hl]
      simp
    subst e
    refine h.set j hj (fun k hk => setCells_far vs.toList o k hk) s4.symm ?_ hc hL
    exact ⟨s1.trans h.below.os, s2.trans h.below.tape, s3.trans h.below.output, by have := h.below.size; omega, fun k hk => by rw [setCells_far vs.toList o k (by omega)]; exact h.below.block k hk⟩
end
/-- A block that was there besides. -/
theorem Ws.add {w0 W : World} {L : List (Nat × TypeId × Array Value)} {g : Nat} {T : TypeId} {cs : Array Value} (h : Ws w0 W L) (hb : W.heap[g]? = some (.cells cs T (0, 0))) (hg : w0.heap.size ≤ g) (hne : ∀ x ∈ L, x.1 ≠ g) : Ws w0 W ((g, T, cs) :: L) := by
  refine ⟨h.below, fun j g' T' cs' hj => ?_, fun i j x y hi hj he => ?_⟩
  · rcases j with _ | j
    · simp only [List.getElem?_cons_zero, Option.some.injEq, Prod.mk.injEq] at hj
      obtain ⟨rfl, rfl, rfl⟩ := hj
      exact ⟨hb, hg⟩
    · exact h.blk j g' T' cs' (by simpa using hj)
  · rcases i with _ | i <;> rcases j with _ | j
    · rfl
    · simp only [List.getElem?_cons_zero, Option.some.injEq] at hi
      subst hi
      exact absurd he.symm (hne y (List.mem_of_getElem? (by simpa using hj)))
    · simp only [List.getElem?_cons_zero, Option.some.injEq] at hj
      subst hj
      exact absurd he (hne x (List.mem_of_getElem? (by simpa using hi)))
    · have := h.dist i j x y (by simpa using hi) (by simpa using hj) he
      omega
/-- What lies from 'base' on, and was there at Wc, is as it was. -/
structure KeepUp (base : Nat) (Wc W : World) : Prop where
  size : Wc.heap.size ≤ W.heap.size
  same : ∀ k, base ≤ k → k < Wc.heap.size → W.heap[k]? = Wc.heap[k]?
section
variable {base g : Nat} {Wc W W' : World}
theorem KeepUp.refl (base : Nat) (W : World) : KeepUp base W W := ⟨Nat.le_refl _, fun _ _ _ => rfl⟩
theorem KeepUp.store (h : KeepUp base Wc W) (hF : (∀ k, k ≠ g → W'.heap[k]? = W.heap[k]?) ∧ W.heap.size = W'.heap.size) (hg : g < base ∨ Wc.heap.size ≤ g) : KeepUp base Wc W' :=
  ⟨by have := h.size; omega, fun k h1 h2 => (hF.1 k (by omega)).trans (h.same k h1 h2)⟩
theorem KeepUp.below (h : KeepUp base Wc W) (hb : Below W.heap.size W W') : KeepUp base Wc W' :=
  ⟨Nat.le_trans h.size hb.size, fun k h1 h2 => (hb.block k (by have := h.size; omega)).trans (h.same k h1 h2)⟩
theorem KeepUp.R {α : Type} {d : Kd α} {e : Nat} {ok : Nat → Prop} {v : Value} {xs : List α} (h : KeepUp base Wc W) (hr : d.R e Wc base ok v xs) : d.R e W base ok v xs :=
  Kd.R_mono (Kd.R_move (Kd.R_bound hr) (fun k hk => h.same k hk.2.1 hk.2.2.1)) (fun k hk => hk.1)
end
theorem wp_mid {P : Program} {c : Code} {Q : Exit → Act → World → Prop} {a : Act} {w : World} {M : Act → World → Prop} (h : c.wp P (Exit.then M (fun _ _ _ => False)) a w) (h2 : ∀ a w, M a w → Q .normal a w) : c.wp P Q a w := by
  refine wp_mono h ?_
  intro e a w hq
  cases e with
  | normal => exact h2 a w hq
  | exit id => exact hq.elim
  | goto l => exact hq.elim
  | ret => exact hq.elim
  | panic ch => exact hq.elim
  | outgrown => exact hq.elim
def skipAct : Nat → List Oper → Act → Act
  | n + 1, o :: r, a => skipAct n r (a.put o.dst undef)
  | _, _, a => a
def allSkip (ops : Array Oper) : Nat → List Oper → Act → Bool
  | 0, _, _ => true
  | n + 1, o :: r, a => !Region.wanted o (yielded ops a.tmps) && allSkip ops n r (a.put o.dst undef)
  | _ + 1, [], _ => false
theorem skips {P : Program} {ops : Array Oper} {w : World} {Q : Exit → Act → World → Prop} : ∀ (n : Nat) (rest : List Oper) (a : Act), allSkip ops n rest a = true → wpList P ops Q (rest.drop n) (skipAct n rest a) w → wpList P ops Q rest a w
  | 0, rest, a, _, h => by
    cases rest with
    | nil => exact h
    | cons o r => exact h
  | n + 1, [], a, hs, _ => by simp [allSkip] at hs
  | n + 1, o :: r, a, hs, h => by
    simp only [allSkip, Bool.and_eq_true, Bool.not_eq_true'] at hs
    refine wpList_step fun K hK => ?_
    rw [hs.1]
    exact hK _ _ (skips n r _ hs.2 h)
/-- One operation, and some behind it that are left out. -/
theorem st_ones {P : Program} {ops : Array Oper} {rest : List Oper} {o : Oper} {a a' a2 : Act} {w w' : World} {Q : Exit → Act → World → Prop} (n : Nat) (v : Value) (hg : Region.wanted o (yielded ops a.tmps) = true)
    (hv : (execOp a.eval o).run P w = .ok (.value v) w') (ha : a.put o.dst v = a') (hs : allSkip ops n rest a' = true) (h2 : skipAct n rest a' = a2) (h : wpList P ops Q (rest.drop n) a2 w') : wpList P ops Q (o :: rest) a w := by
  subst ha
  refine wpList_step fun K hK => ?_
  rw [if_pos hg]
  unfold Oper.wp
  rw [hv, Oper.upon_value]
  subst h2
  exact hK _ _ (skips n rest _ hs h)
theorem lp_next {I : Nat → Act → World → Prop} {Q : Exit → Act → World → Prop} {n : Nat} {a : Act} {w : World} (m : Nat) (h : m < n) (hI : I m a w) : Exit.then (fun a' w' => ∃ n', n' < n ∧ I n' a' w') Q .normal a w := ⟨m, h, hI⟩
theorem st_val {P : Program} {s : Sem Value} {w w' : World} {v : Value} (h : s.run P w = .ok v w') : (do pure (Next.value (← s)) : Sem Next).run P w = .ok (.value v) w' := by
  simp [h]
theorem st_unit {P : Program} {s : Sem Unit} {w w' : World} (h : s.run P w = .ok () w') : (do s; pure Next.skip : Sem Next).run P w = .ok .skip w' := by
  simp [h]
theorem ev1 {P : Program} {w0 W : World} {L : List (Nat × TypeId × Array Value)} (hW : Ws w0 W L) {o : Oper} {a : Act} (j off : Nat) {g : Nat} {T : TypeId} {cs : Array Value} {ty : TypeId} {x : Operand} {v : Value} {d : TypeDesc} (hu : P.underlying ty = some d)
    (hj : L[j]? = some (g, T, cs) := by rfl) (ho : o.op = .load ty x := by rfl) (hx : a.eval x = .pointer (some ⟨g, off, none⟩) := by kernel_rfl) (hv : cs[off]? = some v := by kernel_rfl) (hd : d.isRow = false := by rfl) : (execOp a.eval o).run P W = .ok (.value v) W := by
  unfold execOp
  rw [ho]
  simp only [hx]
  exact st_val (hW.load1 j hj hv ty d hu hd)
theorem evA {P : Program} {w0 W : World} {L : List (Nat × TypeId × Array Value)} (hW : Ws w0 W L) {o : Oper} {a : Act} (j off : Nat) {g : Nat} {T : TypeId} {cs vs : Array Value} {ty : TypeId} {x : Operand} {d : TypeDesc} (hu : P.underlying ty = some d)
    (hj : L[j]? = some (g, T, cs) := by rfl) (ho : o.op = .load ty x := by rfl) (hx : a.eval x = .pointer (some ⟨g, off, none⟩) := by kernel_rfl) (hv : (cs.toList.drop off).take vs.size = vs.toList := by kernel_rfl) (hd : d.isRow = true := by rfl) (hi : (P.info? ty).map (·.size) = some vs.size := by kernel_rfl) : (execOp a.eval o).run P W = .ok (.value (.agg vs)) W := by
  unfold execOp
  rw [ho]
  simp only [hx]
  exact st_val (hW.loadA j hj vs hv ty d hu hd hi)
/-- Does number j wait for number i, by at most n links? -/
def waitsFor (md : Region.Mode) (ops : Array Oper) : Nat → Nat → Nat → Bool
  | 0, _, _ => false
  | n + 1, j, i => ((ops[j]?).map fun o => o.after.any fun e => Region.binds md e && (e.on == i || waitsFor md ops n e.on i)).getD false
def Shutt (md : Region.Mode) (ops : Array Oper) (l : Array Bool) : Prop := ∀ (j : Nat) (o : Oper), ops[j]? = some o → l.getD j false = true → ∀ e ∈ o.after, Region.binds md e = true → l.getD e.on false = true
section
variable {P : Program} {md : Region.Mode} {ops : Array Oper} {Q : Exit → Act → World → Prop} {S : World → Prop} {st : Nat}
theorem waits_not {l : Array Bool} (hc : Shutt md ops l) {i : Nat} (hi : l.getD i false = false) : ∀ (n j : Nat), waitsFor md ops n j i = true → l.getD j false = false ∧ ¬ (∀ (o : Oper), ops[j]? = some o → ∀ e ∈ o.after, Region.binds md e = true → l.getD e.on false = true) := by
  intro n
  induction n with
  | zero => intro j h; simp [waitsFor] at h
  | succ n ih =>
    intro j h
    simp only [waitsFor] at h
    cases ho : ops[j]? with
    | none => rw [ho] at h; simp at h
    | some o =>
      rw [ho] at h
      simp only [Option.map_some, Option.getD_some, Array.any_eq_true] at h
      obtain ⟨k, hk, hb⟩ := h
      simp only [Bool.and_eq_true, Bool.or_eq_true, beq_iff_eq] at hb
      have hm : o.after[k] ∈ o.after := Array.getElem_mem hk
      have hno : l.getD o.after[k].on false = false := by
        rcases hb.2 with h2 | h2
        · rw [h2]; exact hi
        · exact (ih _ h2).1
      refine ⟨?_, fun hall => ?_⟩
      · cases hj : l.getD j false with
        | false => rfl
        | true =>
          have := hc j o ho hj _ hm hb.1
          rw [hno] at this
          cases this
      · have := hall o rfl _ hm hb.1
        rw [hno] at this
        cases this
/-- As the order may be picked; S holds as long as number st has not come up. -/
def wpAnyD (P : Program) (md : Region.Mode) (ops : Array Oper) (Q : Exit → Act → World → Prop) (S : World → Prop) (st : Nat) : Nat → Array Bool → Act → World → Prop
  | 0, listed, a, w => Region.ready md ops listed = [] ∧ Q .normal a w
  | fuel + 1, listed, a, w =>
    (Region.ready md ops listed = [] → Q .normal a w) ∧
    ∀ i ∈ Region.ready md ops listed, wpOp P ops Q i (fun a' w' => ((listed.setIfInBounds i true).getD st false = false → S w') ∧ wpAnyD P md ops Q S st fuel (listed.setIfInBounds i true) a' w') a w
theorem wpAny_of_D : ∀ (fuel : Nat) (listed : Array Bool) (a : Act) (w : World), wpAnyD P md ops Q S st fuel listed a w → wpAny P md ops Q fuel listed a w
  | 0, _, _, _, h => h
  | fuel + 1, _, _, _, h => ⟨h.1, fun i hi => wpOp_mono (fun a' w' h' => wpAny_of_D fuel _ a' w' h'.2) (h.2 i hi)⟩
theorem getD_true_of {l : Array Bool} {i : Nat} (h : l.getD i true = false) : l.getD i false = false := by
  rcases Nat.lt_or_ge i l.size with h' | h'
  · simpa [h'] using h
  · simp [Array.getElem?_eq_none h'] at h
theorem shut_set {l : Array Bool} (hc : Shutt md ops l) {j : Nat} (hj : j ∈ Region.ready md ops l) : Shutt md ops (l.setIfInBounds j true) := by
  intro k o ho hk e he hb
  obtain ⟨hu, oj, hoj, hall⟩ := mem_ready.1 hj
  by_cases hkj : j = k
  · subst hkj
    rw [hoj] at ho
    cases ho
    exact getD_set_true (hall e he hb)
  · rw [getD_set_ne false hkj] at hk
    exact getD_set_true (hc k o ho hk e he hb)
theorem wpAnyD_first {i n : Nat} {oi : Oper} {v : Value} (hi : ops[i]? = some oi) (hsel : ∀ (j : Nat) (o : Oper) cs b, ops[j]? = some o → o.op ≠ .select cs b)
    (hQ : ∀ c a w, Q (.panic c) (a.put oi.dst v) w → Q (.panic c) a w) (hp : waitsFor md ops n st i = true) :
    ∀ (fuel : Nat) (listed : Array Bool) (a : Act) (w : World), Shutt md ops listed →
      (∀ j oj, ops[j]? = some oj → j ≠ i → listed.getD j true = false → (∀ e ∈ oj.after, Region.binds md e = true → e.on ≠ i) → oi.apart ops oj = true) →
      i ∈ Region.ready md ops listed → YieldsIf P ops S oi v a → S w →
      wpAnyD P md ops Q S st fuel (listed.setIfInBounds i true) (a.put oi.dst v) w → wpAnyD P md ops Q S st (fuel + 1) listed a w := by
  intro fuel
  induction fuel with
  | zero =>
    intro listed a w hc _ hr hy hS H
    refine ⟨fun h => (by rw [h] at hr; cases hr), fun j hj => ?_⟩
    by_cases hji : j = i
    · subst hji
      exact hy.wpOp hi hS ⟨fun _ => hS, H⟩
    · have := ready_mono hj hji
      rw [H.1] at this
      cases this
  | succ fuel ih =>
    intro listed a w hc hfree hr hy hS H
    refine ⟨fun h => (by rw [h] at hr; cases hr), fun j hj => ?_⟩
    by_cases hji : j = i
    · subst hji
      exact hy.wpOp hi hS ⟨fun _ => hS, H⟩
    · have h1 := H.2 j (ready_mono hj hji)
      have hiun : listed.getD i false = false := getD_true_of (mem_ready.1 hr).1
      obtain ⟨hjun, oj, hoj, hall⟩ := mem_ready.1 hj
      obtain ⟨hst, hstn⟩ := waits_not hc hiun n st hp
      have hjst : j ≠ st := by
        rintro rfl
        exact hstn (fun o ho => by rw [hoj] at ho; cases ho; exact hall)
      have hnot : ∀ e ∈ oj.after, Region.binds md e = true → e.on ≠ i := fun e he hb heq => by
        have h2 := hall e he hb
        rw [heq, hiun] at h2
        cases h2
      have h2 := wpOp_putIf hoj (hfree j oj hoj hji hjun hnot) (fun cs b => hsel i oi cs b hi) (fun cs b => hsel j oj cs b hoj) hQ hy h1
      have hfree' : ∀ k ok, ops[k]? = some ok → k ≠ i → (listed.setIfInBounds j true).getD k true = false →
          (∀ e ∈ ok.after, Region.binds md e = true → e.on ≠ i) → oi.apart ops ok = true := fun k ok hk hki hun hno => by
        refine hfree k ok hk hki ?_ hno
        by_cases hjk : j = k
        · subst hjk; exact hjun
        · rw [getD_set_ne true hjk] at hun; exact hun
      have hstj : ((listed.setIfInBounds i true).setIfInBounds j true).getD st false = false := by
        rw [getD_set_ne false hjst, getD_set_ne false (fun e => ?_)]
        · exact hst
        · subst e
          exact absurd hp (fun hp' => (waits_not hc hiun n i hp').2 (fun o ho => by
            obtain ⟨_, o', ho', hall'⟩ := mem_ready.1 hr
            rw [ho] at ho'
            cases ho'
            exact hall'))
      refine wpOp_mono (fun a' w' h3 => ⟨fun _ => h3.2.1 hstj, ih (listed.setIfInBounds j true) a' w' (shut_set hc hj) hfree' (ready_mono hr (Ne.symm hji)) h3.1 (h3.2.1 hstj) ?_⟩) h2
      rw [Array.setIfInBounds_comm _ _ hji]
      exact h3.2.2
/-- The listed ones' links, checked. -/
def shutB (md : Region.Mode) (ops : Array Oper) (l : Array Bool) : Bool := (List.range ops.size).all fun j => !l.getD j false || ((ops[j]?).map fun o => o.after.all fun e => !Region.binds md e || l.getD e.on false).getD true
theorem shutB_spec {l : Array Bool} (h : shutB md ops l = true) : Shutt md ops l := by
  intro j o ho hj e he hb
  have hlt : j < ops.size := (Array.getElem?_eq_some_iff.1 ho).1
  have := List.all_eq_true.1 h j (List.mem_range.2 hlt)
  rw [ho, hj] at this
  simp only [Bool.not_true, Bool.false_or, Option.map_some, Option.getD_some, Array.all_eq_true_iff_forall_mem] at this
  have := this e he
  rw [hb] at this
  simpa using this
theorem dd_begin {id : Nat} {a : Act} {w : World} (st : Nat) (S : World → Prop) (hm : P.follows .mixedOrders = true) (h : wpAnyD P .any ops Q S st ops.size (Array.replicate ops.size false) a w.drew) : (Code.region id ops true).wp P Q a w :=
  wp_region_any hm (wpAny_of_D _ _ _ _ h)
theorem dd_one {fuel : Nat} {listed : Array Bool} {a a' : Act} {w : World} (i : Nat) {o : Oper} (v : Value) (hi : ops[i]? = some o)
    (hs : Region.noSelect ops = true) (hf : Region.free md ops listed i = true) (hr : (Region.ready md ops listed).contains i = true) (hQ : ∀ c a w, Q (.panic c) (a.put o.dst v) w → Q (.panic c) a w)
    (hp : waitsFor md ops ops.size st i = true) (hc : shutB md ops listed = true)
    (hg : Region.wanted o (yielded ops a.tmps) = true) (hv : ∀ W, S W → (execOp a.eval o).run P W = .ok (.value v) W) (hS : S w) (ha : a.put o.dst v = a')
    (h : wpAnyD P md ops Q S st fuel (listed.setIfInBounds i true) a' w) : wpAnyD P md ops Q S st (fuel + 1) listed a w := by
  subst ha
  exact wpAnyD_first hi (Region.noSelect_spec hs) hQ hp fuel listed a w (shutB_spec hc) (Region.free_spec hi hf) (by simpa using hr) (.inl ⟨hg, hv⟩) hS h
/-- Whichever comes up next. -/
theorem dd_ready {fuel : Nat} {listed : Array Bool} {a : Act} {w : World} (rs : List Nat) (hr : Region.ready md ops listed = rs) (hne : rs.isEmpty = false)
    (h : ∀ i ∈ rs, wpOp P ops Q i (fun a' w' => ((listed.setIfInBounds i true).getD st false = false → S w') ∧ wpAnyD P md ops Q S st fuel (listed.setIfInBounds i true) a' w') a w) : wpAnyD P md ops Q S st (fuel + 1) listed a w :=
  ⟨fun h0 => (by rw [hr] at h0; subst h0; cases hne), hr ▸ h⟩
theorem dd_done {listed : Array Bool} {a : Act} {w : World} (hr : Region.ready md ops listed = []) (h : Q .normal a w) : ∀ fuel, wpAnyD P md ops Q S st fuel listed a w
  | 0 => ⟨hr, h⟩
  | _ + 1 => ⟨fun _ => h, by rw [hr]; simp⟩
theorem op_val {i : Nat} {o : Oper} {a a' : Act} {w w' : World} {K : Act → World → Prop} (v : Value) (hi : ops[i]? = some o) (hg : Region.wanted o (yielded ops a.tmps) = true) (hv : (execOp a.eval o).run P w = .ok (.value v) w') (ha : a.put o.dst v = a') (h : K a' w') : wpOp P ops Q i K a w := by
  subst ha
  refine wpOp_step hi fun K' hK => ?_
  rw [if_pos hg]
  unfold Oper.wp
  rw [hv, Oper.upon_value]
  exact hK _ _ h
theorem op_none {i : Nat} {o : Oper} {a a' : Act} {w w' : World} {K : Act → World → Prop} (hi : ops[i]? = some o) (hg : Region.wanted o (yielded ops a.tmps) = true) (hv : (execOp a.eval o).run P w = .ok .skip w') (ha : a.put o.dst undef = a') (h : K a' w') : wpOp P ops Q i K a w := by
  subst ha
  refine wpOp_step hi fun K' hK => ?_
  rw [if_pos hg]
  unfold Oper.wp
  rw [hv, Oper.upon_skip]
  exact hK _ _ h
theorem op_skip {i : Nat} {o : Oper} {a a' : Act} {w : World} {K : Act → World → Prop} (hi : ops[i]? = some o) (hg : Region.wanted o (yielded ops a.tmps) = false) (ha : a.put o.dst undef = a') (h : K a' w) : wpOp P ops Q i K a w := by
  subst ha
  refine wpOp_step hi fun K' hK => ?_
  rw [hg]
  exact hK _ _ h
theorem op_call {i : Nat} {o : Oper} {a : Act} {w : World} {K : Act → World → Prop} {f : FuncId} {args : Array Value} {R : Ending → World → Prop} (hi : ops[i]? = some o) (hc : Calls P f args w R) (hg : Region.wanted o (yielded ops a.tmps) = true) (hv : (execOp a.eval o).run P w = .ok (.enter f args) w)
    (h : ∀ e w', R e w' → ∃ v a', e = .returned v ∧ a.put o.dst v = a' ∧ K a' w') : wpOp P ops Q i K a w := by
  refine wpOp_step hi fun K' hK => ?_
  rw [if_pos hg]
  unfold Oper.wp
  rw [hv, Oper.upon_enter]
  refine hc.mono ?_
  intro e w' hR
  obtain ⟨v, a', rfl, rfl, hw⟩ := h e w' hR
  exact hK _ _ hw
theorem all_cons {p : Nat → Prop} {i : Nat} {l : List Nat} (h : p i) (hl : ∀ j ∈ l, p j) : ∀ j ∈ i :: l, p j := by
  intro j hj
  rcases List.mem_cons.1 hj with rfl | hj
  · exact h
  · exact hl j hj
theorem all_nil {p : Nat → Prop} : ∀ j ∈ ([] : List Nat), p j := fun j hj => by cases hj
end
def warrenerplain_Near.f (a0 : Int) (a1 : Int) (a2 : Int) : Option (Int) := if a0 < a1 then (some a1) else (if a0 > a2 then (some a2) else (some a0))
set_option maxHeartbeats 8000000 in
set_option maxRecDepth 100000 in
theorem warrenerplain_Near.calls (a0 : Int) (a1 : Int) (a2 : Int) (r : Int) (w : World) (h : warrenerplain_Near.f a0 a1 a2 = some r) :
    Calls Try.prog 14 #[.int .i64 a0, .int .i64 a1, .int .i64 a2] w fun e w' => e = .returned (.int .i64 r) ∧ Drawn0 w w' := by
  have H : (if a0 < a1 then (some a1) else (if a0 > a2 then (some a2) else (some a0))) = some r := h
  clear h
  by_cases c4 : a0 < a1
  · rw [if_pos c4] at H
    have c4b0 : decide (a0 < a1) = true := decide_eq_true c4
    clear c4
    obtain rfl := Option.some.inj H
    go_enter Try.func14, Try.ntmps14
    go_wp2
    go_ret
    exact ⟨by first | rfl | (simp; done) | (simp [*]; done), by repeat (first | exact Drawn0.refl _ | apply Drawn0.step)⟩
  · rw [if_neg c4] at H
    have c4b0 : decide (a0 < a1) = false := decide_eq_false c4
    clear c4
    by_cases c5 : a0 > a2
    · rw [if_pos c5] at H
      have c5b0 : decide (a2 < a0) = true := decide_eq_true c5
      clear c5
      obtain rfl := Option.some.inj H
      go_enter Try.func14, Try.ntmps14
      go_wp2
      go_ret
      exact ⟨by first | rfl | (simp; done) | (simp [*]; done), by repeat (first | exact Drawn0.refl _ | apply Drawn0.step)⟩
    · rw [if_neg c5] at H
      have c5b0 : decide (a2 < a0) = false := decide_eq_false c5
      clear c5
      obtain rfl := Option.some.inj H
      go_enter Try.func14, Try.ntmps14
      go_wp2
      go_ret
      exact ⟨by first | rfl | (simp; done) | (simp [*]; done), by repeat (first | exact Drawn0.refl _ | apply Drawn0.step)⟩

-- NOT PRINTED: function 3 (warrenerlaw25_ThreadBegins)

/-- Three rows' values. -/
structure Rw where
  s : Value
  b : Value
  n : Value
/-- A thread: its numbers, its registers' numbers, and the values of its rows. -/
structure Th where
  pc : Int
  fu : Int
  st : Int
  R : Nat → Int
  kd : Int
  mi : Int
  mn : Int
  sv : Value
  bv : Value
  nv : Value
  old : Int
def Th.cells (t : Th) : Array Value := #[.int .i64 t.pc, .int .i64 t.fu, .int .i64 t.st, .int .i64 (t.R 0), .int .i64 (t.R 1), .int .i64 (t.R 2), .int .i64 (t.R 3), .int .i64 (t.R 4), .int .i64 (t.R 5), .int .i64 (t.R 6), .int .i64 (t.R 7), .int .i64 (t.R 8), .int .i64 (t.R 9), .int .i64 (t.R 10), .int .i64 (t.R 11), .int .i64 t.kd, .int .i64 t.mi, .int .i64 t.mn, t.sv, t.bv, t.nv, .int .i64 t.old]
def Th.rows (t : Th) (sv bv nv : Value) : Th := { t with sv := sv, bv := bv, nv := nv }
/-- A row that is read. -/
def Sl {α : Type} (k : Kd α) (w : World) (v : Value) (xs : List α) : Prop := ∃ A c, v = .slice A xs.length c ∧ xs.length ≤ c ∧ Kd.C k w A xs.length xs
theorem Sl.below {α : Type} {k : Kd α} {w w' : World} {v : Value} {xs : List α} (h : Sl k w v xs) (hb : Below w.heap.size w w') : Sl k w' v xs := by
  obtain ⟨A, c, h1, h2, h3⟩ := h
  exact ⟨A, c, h1, h2, Kd.C_below h3 hb⟩
theorem Sl.nil {α : Type} (k : Kd α) (w : World) : Sl k w (.slice none 0 0) [] := ⟨none, 0, rfl, Nat.le_refl _, rfl, Nat.zero_le _, fun h => absurd h (by simp)⟩
structure Th.reads (w : World) (t : Th) (xs : List Int) (bs : List S42) (ns : List Int) : Prop where
  s : Sl (Kd.int .i64) w t.sv xs
  b : Sl k42 w t.bv bs
  n : Sl (Kd.int .i64) w t.nv ns
theorem Th.reads.below {w w' : World} {t : Th} {xs : List Int} {bs : List S42} {ns : List Int} (h : t.reads w xs bs ns) (hb : Below w.heap.size w w') : t.reads w' xs bs ns := ⟨h.s.below hb, h.b.below hb, h.n.below hb⟩
structure Th.owns (w : World) (base : Nat) (t : Th) (xs : List Int) (bs : List S42) (ns : List Int) : Prop where
  s : Kd.R (Kd.int .i64) 2 w base (fun _ => True) t.sv xs
  b : Kd.R k42 42 w base (fun _ => True) t.bv bs
  n : Kd.R (Kd.int .i64) 2 w base (fun _ => True) t.nv ns
theorem Th.owns.reads {w : World} {base : Nat} {t : Th} {xs : List Int} {bs : List S42} {ns : List Int} (h : t.owns w base xs bs ns) : t.reads w xs bs ns := ⟨Kd.R_reads h.s, Kd.R_reads h.b, Kd.R_reads h.n⟩
theorem Th.owns.below {w w' : World} {base : Nat} {t : Th} {xs : List Int} {bs : List S42} {ns : List Int} (h : t.owns w base xs bs ns) (hb : Below w.heap.size w w') : t.owns w' base xs bs ns := ⟨Kd.R_below h.s hb, Kd.R_below h.b hb, Kd.R_below h.n hb⟩
theorem Th.owns.lower {w : World} {base base' : Nat} {t : Th} {xs : List Int} {bs : List S42} {ns : List Int} (h : t.owns w base xs bs ns) (hb : base' ≤ base) : t.owns w base' xs bs ns := ⟨Kd.R_lower h.s hb, Kd.R_lower h.b hb, Kd.R_lower h.n hb⟩
theorem Th.owns.keep {w w' : World} {base : Nat} {t : Th} {xs : List Int} {bs : List S42} {ns : List Int} (h : t.owns w base xs bs ns) (hk : KeepUp base w w') : t.owns w' base xs bs ns := ⟨hk.R h.s, hk.R h.b, hk.R h.n⟩
def getR (R : Nat → Int) (r : Int) (j : Nat) : Int := if 0 ≤ r ∧ r ≤ 3 then R (3 * r.toNat + j) else 0
def setR (R : Nat → Int) (r n c g : Int) : Nat → Int := if 0 ≤ r ∧ r ≤ 3 then fun j => if j = 3 * r.toNat then n else if j = 3 * r.toNat + 1 then c else if j = 3 * r.toNat + 2 then g else R j else R
theorem in_calls (a lo hi : Int) (b : Bool) (h : decide (lo ≤ a ∧ a ≤ hi) = b) (w : World) : Calls Try.prog 35 #[.int .i64 a, .int .i64 lo, .int .i64 hi] w fun e w' => e = .returned (.bool b) ∧ Below w.heap.size w w' := by
  refine (num_In.calls a lo hi b w ?_).mono ?_
  · unfold num_In.f
    subst h
    by_cases h1 : lo ≤ a
    · simp [h1]
    · simp [h1]
  · rintro e w' ⟨rfl, hb⟩
    exact ⟨rfl, hb.below⟩
theorem row_calls {α : Type} {k : Kd α} {e f : Nat} {w : World} {v : Value} {xs : List α} (h : Sl k w v xs)
    (hc : ∀ (A0 : Option Addr) (c0 : Nat), Kd.C k w A0 xs.length xs → xs.length ≤ c0 → Calls Try.prog f #[.slice A0 xs.length c0] w fun e' w' => ∃ v0_ : Value, e' = .returned (v0_) ∧ Kd.R k e w' w.heap.size (fun _ => True) v0_ xs ∧ Below w.heap.size w w') :
    Calls Try.prog f #[v] w fun e' w' => ∃ A c, e' = .returned (.slice A xs.length c) ∧ Kd.R k e w' w.heap.size (fun _ => True) (.slice A xs.length c) xs ∧ Below w.heap.size w w' := by
  obtain ⟨A, c, rfl, h2, h3⟩ := h
  refine (hc A c h3 h2).mono ?_
  rintro e' w' ⟨v, rfl, hR, hB⟩
  obtain ⟨A', c', rfl⟩ := Kd.R_slice hR
  exact ⟨A', c', rfl, hR, hB⟩
theorem cloneI_calls {w : World} {v : Value} {xs : List Int} (h : Sl (Kd.int .i64) w v xs) (hl : xs.length ≤ 1000) : Calls Try.prog 33 #[v] w fun e' w' => ∃ A c, e' = .returned (.slice A xs.length c) ∧ Kd.R (Kd.int .i64) 2 w' w.heap.size (fun _ => True) (.slice A xs.length c) xs ∧ Below w.heap.size w w' :=
  row_calls h fun A0 c0 h1 h2 => slices_Clone_int64_int64.calls A0 c0 xs xs w h1 h2 (by unfold slices_Clone_int64_int64.f; rw [if_pos (by omega)])
theorem cloneB_calls {w : World} {v : Value} {xs : List S42} (h : Sl k42 w v xs) (hl : xs.length ≤ 1000) : Calls Try.prog 34 #[v] w fun e' w' => ∃ A c, e' = .returned (.slice A xs.length c) ∧ Kd.R k42 42 w' w.heap.size (fun _ => True) (.slice A xs.length c) xs ∧ Below w.heap.size w w' :=
  row_calls h fun A0 c0 h1 h2 => api_Bagged.calls A0 c0 xs xs w h1 h2 (by unfold api_Bagged.f; rw [if_pos (by omega)])
theorem st_put {P : Program} {ops : Array Oper} {rest : List Oper} {a a' : Act} {w : World} {Q : Exit → Act → World → Prop} {d : Option Nat} {v : Value} (ha : a.put d v = a') (h : wpList P ops Q rest a' w) : wpList P ops Q rest (a.put d v) w := by
  rw [ha]
  exact h
theorem word_eq (d : Nat) (a b c : Int) (W : World) : (Op.equalIn (d + 2) 25 (.agg #[.int .i64 a, .int .i64 b, .int .i64 c]) (.agg #[.int .i64 a, .int .i64 b, .int .i64 c])).run Try.prog W = .ok true W := by
  go_simp
theorem regs_eq (R : Nat → Int) (W : World) : (Op.equal 26 (.agg #[.int .i64 (R 0), .int .i64 (R 1), .int .i64 (R 2), .int .i64 (R 3), .int .i64 (R 4), .int .i64 (R 5), .int .i64 (R 6), .int .i64 (R 7), .int .i64 (R 8), .int .i64 (R 9), .int .i64 (R 10), .int .i64 (R 11)]) (.agg #[.int .i64 (R 0), .int .i64 (R 1), .int .i64 (R 2), .int .i64 (R 3), .int .i64 (R 4), .int .i64 (R 5), .int .i64 (R 6), .int .i64 (R 7), .int .i64 (R 8), .int .i64 (R 9), .int .i64 (R 10), .int .i64 (R 11)])).run Try.prog W = .ok true W := by
  have p0 : ∀ W, (part 25 #[.int .i64 (R 0), .int .i64 (R 1), .int .i64 (R 2), .int .i64 (R 3), .int .i64 (R 4), .int .i64 (R 5), .int .i64 (R 6), .int .i64 (R 7), .int .i64 (R 8), .int .i64 (R 9), .int .i64 (R 10), .int .i64 (R 11)] 0).run Try.prog W = .ok (.agg #[.int .i64 (R 0), .int .i64 (R 1), .int .i64 (R 2)]) W := fun W => by kernel_rfl
  have p1 : ∀ W, (part 25 #[.int .i64 (R 0), .int .i64 (R 1), .int .i64 (R 2), .int .i64 (R 3), .int .i64 (R 4), .int .i64 (R 5), .int .i64 (R 6), .int .i64 (R 7), .int .i64 (R 8), .int .i64 (R 9), .int .i64 (R 10), .int .i64 (R 11)] 3).run Try.prog W = .ok (.agg #[.int .i64 (R 3), .int .i64 (R 4), .int .i64 (R 5)]) W := fun W => by kernel_rfl
  have p2 : ∀ W, (part 25 #[.int .i64 (R 0), .int .i64 (R 1), .int .i64 (R 2), .int .i64 (R 3), .int .i64 (R 4), .int .i64 (R 5), .int .i64 (R 6), .int .i64 (R 7), .int .i64 (R 8), .int .i64 (R 9), .int .i64 (R 10), .int .i64 (R 11)] 6).run Try.prog W = .ok (.agg #[.int .i64 (R 6), .int .i64 (R 7), .int .i64 (R 8)]) W := fun W => by kernel_rfl
  have p3 : ∀ W, (part 25 #[.int .i64 (R 0), .int .i64 (R 1), .int .i64 (R 2), .int .i64 (R 3), .int .i64 (R 4), .int .i64 (R 5), .int .i64 (R 6), .int .i64 (R 7), .int .i64 (R 8), .int .i64 (R 9), .int .i64 (R 10), .int .i64 (R 11)] 9).run Try.prog W = .ok (.agg #[.int .i64 (R 9), .int .i64 (R 10), .int .i64 (R 11)]) W := fun W => by kernel_rfl
  have hs : ∀ W, (sizeOf 25).run Try.prog W = .ok 3 W := fun W => by kernel_rfl
  have hu : ∀ W, (underlying 26).run Try.prog W = .ok (.array 4 25) W := fun W => by kernel_rfl
  show (Op.equalIn (9999 + 1) 26 _ _).run Try.prog W = _
  unfold Op.equalIn
  rw [Sem.run_bind, hu, Result.andThen_ok]
  simp only [Sem.run_bind, hs, Result.andThen_ok]
  simp [Std.Legacy.Range.forIn_eq_forIn_range', Std.Legacy.Range.size, List.range', Sem.run_bind, p0, p1, p2, p3, word_eq 9997]
theorem st_valb {P : Program} {s : Sem Bool} {w w' : World} {b : Bool} (h : s.run P w = .ok b w') : (do pure (Value.bool (← s)) : Sem Value).run P w = .ok (.bool b) w' := by
  simp [h]
theorem nums_loop (l : List Int) (hl : l.length ≤ 1000) (d : Nat) : ∀ (k i : Nat), i + d = l.length → d < k → warrenerplain_Nums.l0 k l l i = some true := by
  induction d with
  | zero =>
    intro k i hi hk
    obtain ⟨k, rfl⟩ := Nat.exists_eq_add_of_lt hk
    simp only [warrenerplain_Nums.l0, Nat.zero_add]
    rw [if_neg (by omega)]
  | succ d ih =>
    intro k i hi hk
    obtain ⟨k, rfl⟩ : ∃ j, k = j + 1 := ⟨k - 1, by omega⟩
    simp only [warrenerplain_Nums.l0]
    rw [if_pos (by omega), if_pos (by omega), if_pos (by omega), if_pos trivial]
    have e : wrap64 ((i : Int) + 1) = ((i + 1 : Nat) : Int) := by unfold wrap64; omega
    rw [e]
    exact ih k (i + 1) (by omega) (by omega)
theorem nums_same (l : List Int) (hl : l.length ≤ 1000) : warrenerplain_Nums.f 2000 l l = some true := by
  unfold warrenerplain_Nums.f
  rw [if_pos rfl]
  exact nums_loop l hl l.length 2000 0 (by omega) (by omega)
theorem c_nums {w : World} {v v' : Value} {l : List Int} (h : Sl (Kd.int .i64) w v l) (h' : Sl (Kd.int .i64) w v' l) (hl : l.length ≤ 1000) : Calls Try.prog 31 #[v, v'] w fun e w' => e = .returned (.bool true) ∧ Below w.heap.size w w' := by
  obtain ⟨A, c, rfl, h2, h3⟩ := h
  obtain ⟨A', c', rfl, h2', h3'⟩ := h'
  exact (warrenerplain_Nums.calls 2000 A c l A' c' l true w h3 h2 h3' h2' (nums_same l hl)).mono fun e w' ⟨h1, h2⟩ => ⟨h1, h2.below⟩
theorem c_micro {w : World} {v v' : Value} {l : List Int} (h : Sl (Kd.int .i64) w v l) (h' : Sl (Kd.int .i64) w v' l) (hl : l.length ≤ 1000) (a b c : Int) : Calls Try.prog 30 #[.agg #[.int .i64 a, .int .i64 b, .int .i64 c, v], .agg #[.int .i64 a, .int .i64 b, .int .i64 c, v']] w fun e w' => e = .returned (.bool true) ∧ Below w.heap.size w w' := by
  obtain ⟨A, c0, rfl, h2, h3⟩ := h
  obtain ⟨A', c', rfl, h2', h3'⟩ := h'
  refine warrenerplain_Micro.calls 2000 a b c A c0 l a b c A' c' l true w h3 h2 h3' h2' ?_
  unfold warrenerplain_Micro.f
  rw [if_pos rfl, if_pos rfl, if_pos rfl, nums_same l hl]
  rfl
def arithF (op b c : Int) : Int × Bool := if op = 4 then (wrap64 (b + c), true) else if op = 5 then (wrap64 (b - c), true) else if op = 6 then (wrap64 (b * c), true) else if c = 0 then (0, false) else if c = -1 then (wrap64 (-b), true) else (wrap64 (Int.tdiv b c), true)
/-- A thread behind an instruction by itself, and whether it was one. -/
def localT (t : Th) (op a b c n : Int) : Th × Bool :=
  if op = 1 then ({ t with st := 1 }, true)
  else if op = 2 then ({ t with R := setR t.R a n 0 0 }, true)
  else if op = 3 then ({ t with R := setR t.R a (getR t.R b 0) (getR t.R b 1) (getR t.R b 2) }, true)
  else if op = 8 then ({ t with pc := n }, true)
  else if op = 9 then (if getR t.R a 0 = 0 then { t with pc := n } else t, true)
  else if op = 10 then (if getR t.R a 0 = getR t.R b 0 then { t with pc := n } else t, true)
  else if 4 ≤ op ∧ op ≤ 7 then (if (arithF op (getR t.R b 0) (getR t.R c 0)).2 = true then { t with R := setR t.R a (arithF op (getR t.R b 0) (getR t.R c 0)).1 0 0 } else { t with st := 1 }, true)
  else (t, false)
theorem name_no (op : Int) (h : op < 1 ∨ 25 < op) (w : World) : Calls Try.prog 36 #[.int .i64 op] w fun e w' => e = .returned (.string ⟨#[]⟩) ∧ Below w.heap.size w w' := by
  refine op_Name.calls op ⟨#[]⟩ w ?_
  unfold op_Name.f op_of.f
  by_cases h0 : 0 ≤ op ∧ op < 26
  · obtain rfl : op = 0 := by omega
    rfl
  · rw [if_neg h0]
    rfl
theorem name_yes (op : Int) (h : 1 ≤ op ∧ op ≤ 25) (w : World) : Calls Try.prog 36 #[.int .i64 op] w fun e w' => ∃ s : ByteArray, e = .returned (.string s) ∧ (s.toList == (⟨#[]⟩ : ByteArray).toList) = false ∧ Below w.heap.size w w' := by
  have H : (List.range 25).all (fun k => !((op_kinds.strs.getD ((k + 1) * 2) ⟨#[]⟩).toList == (⟨#[]⟩ : ByteArray).toList)) = true := by decide +kernel
  refine (op_Name.calls op (op_kinds.strs.getD (op.toNat * 2) ⟨#[]⟩) w ?_).mono ?_
  · unfold op_Name.f op_of.f
    rw [if_pos (by omega)]
    rfl
  · rintro e w' ⟨rfl, hB⟩
    refine ⟨_, rfl, ?_, hB⟩
    have := List.all_eq_true.1 H (op.toNat - 1) (List.mem_range.2 (by omega))
    rw [show op.toNat - 1 + 1 = op.toNat by omega] at this
    simpa using this
theorem shares_is (op : Int) (b : Bool) (h : (if 11 ≤ op ∧ op ≤ 25 ∧ op ≠ 17 then true else false) = b) (w : World) : Calls Try.prog 37 #[.int .i64 op] w fun e w' => e = .returned (.bool b) ∧ Below w.heap.size w w' := by
  refine (op_Shares.calls op b w ?_).mono fun e w' ⟨h1, h2⟩ => ⟨h1, h2.below⟩
  subst h
  unfold op_Shares.f
  by_cases h1 : 11 ≤ op
  · rw [if_pos h1]
    by_cases h2 : op ≤ 16
    · rw [if_pos h2, if_pos (by omega)]
    · rw [if_neg h2]
      by_cases h3 : 18 ≤ op
      · rw [if_pos h3]
        by_cases h4 : op ≤ 25
        · rw [decide_eq_true h4, if_pos (by omega)]
        · rw [decide_eq_false h4, if_neg (by omega)]
      · rw [if_neg h3, if_neg (by omega)]
  · rw [if_neg h1, if_neg (by omega), if_neg (by omega)]
theorem arith_is (op b b1 b2 c c1 c2 : Int) (h : 4 ≤ op ∧ op ≤ 7) (k : Bool) (hk : (arithF op b c).2 = k) (w : World) : Calls Try.prog 40 #[.int .i64 op, .agg #[.int .i64 b, .int .i64 b1, .int .i64 b2], .agg #[.int .i64 c, .int .i64 c1, .int .i64 c2]] w fun e w' => e = .returned (.tuple #[.agg #[.int .i64 (arithF op b c).1, .int .i64 0, .int .i64 0], .bool k]) ∧ Below w.heap.size w w' := by
  subst hk
  refine tag_Arith.calls op b b1 b2 c c1 c2 (arithF op b c).1 0 0 (arithF op b c).2 w ?_
  unfold tag_Arith.f arithF
  by_cases h4 : op = 4
  · simp only [if_pos h4]
  · by_cases h5 : op = 5
    · simp only [if_neg h4, if_pos h5]
    · by_cases h6 : op = 6
      · simp only [if_neg h4, if_neg h5, if_pos h6]
      · have h7 : op = 7 := by omega
        simp only [if_neg h4, if_neg h5, if_neg h6, if_pos h7]
        by_cases z : c = 0
        · simp only [if_pos z]
        · simp only [if_neg z]
          by_cases z1 : c = -1
          · simp only [if_pos z1]
          · simp only [if_neg z1]
theorem equal_is (a a1 a2 b b1 b2 : Int) (k : Bool) (hk : (a == b) = k) (w : World) : Calls Try.prog 39 #[.agg #[.int .i64 a, .int .i64 a1, .int .i64 a2], .agg #[.int .i64 b, .int .i64 b1, .int .i64 b2]] w fun e w' => e = .returned (.bool k) ∧ Below w.heap.size w w' :=
  tag_Equal.calls a a1 a2 b b1 b2 k w (by unfold tag_Equal.f; rw [hk])
theorem rarith_is (op b c : Int) (h : 4 ≤ op ∧ op ≤ 7) (k : Bool) (hk : (arithF op b c).2 = k) (w : World) : Calls Try.prog 41 #[.int .i64 op, .int .i64 b, .int .i64 c] w fun e w' => e = .returned (.tuple #[.int .i64 (arithF op b c).1, .bool k]) ∧ Below w.heap.size w w' := by
  subst hk
  refine (warrenerref25_Arith.calls op b c (arithF op b c).1 (arithF op b c).2 w ?_).mono fun e w' ⟨h1, h2⟩ => ⟨h1, h2.below⟩
  unfold warrenerref25_Arith.f arithF
  by_cases h4 : op = 4
  · simp only [if_pos h4]
  · by_cases h5 : op = 5
    · simp only [if_neg h4, if_pos h5]
    · by_cases h6 : op = 6
      · simp only [if_neg h4, if_neg h5, if_pos h6]
      · simp only [if_neg h4, if_neg h5, if_neg h6]
        by_cases z : c = 0
        · simp only [if_pos z]
        · simp only [if_neg z]
          by_cases z1 : c = -1
          · simp only [if_pos z1]
          · simp only [if_neg z1]
def clampF (x : Int) : Int := if x < 0 then 0 else if 16 < x then 16 else x
theorem clamp_is (x : Int) (w : World) : Calls Try.prog 32 #[.int .i64 x, .int .i64 0, .int .i64 16] w fun e w' => e = .returned (.int .i64 (clampF x)) ∧ Below w.heap.size w w' := by
  refine num_Clamp.calls x 0 16 (clampF x) w ?_
  unfold num_Clamp.f clampF
  by_cases h : x < 0
  · rw [if_pos h, if_pos h]
  · rw [if_neg h, if_neg h]
    unfold mn
    by_cases h2 : 16 < x
    · rw [if_pos h2]
    · rw [if_neg h2]
def th0 (f : Int) : Th := ⟨0, f, 0, fun _ => 0, 0, 0, 0, .slice none 0 0, .slice none 0 0, .slice none 0 0, 0⟩
theorem sl_cut {P : Program} {T e : TypeId} (hu : P.underlying T = some (.slice e)) {i : TypeInfo} (hi : P.info? e = some i) {A : Option Addr} {n c : Nat} (m : Nat) (hm : m ≤ n) (hc : n ≤ c) (W : World) : (Instr.sliceAt T (.slice A n c) none (some (.int .i64 (m : Int))) none).run P W = .ok (.slice A m c) W := by
  have hel : P.elem T = e := by simp [Program.elem, hu]
  have h1 := run_sliceAt_slice (P := P) (w := W) T (.slice A n c) none (some (.int .i64 (m : Int))) none (by rw [hel]; exact hu)
  have h2 := cut_to T e .i64 hu hi A n c m (by omega) (by omega) hc W
  rw [Int.toNat_natCast] at h2
  exact h1.trans h2
theorem inf2 : ∃ i, Try.prog.info? 2 = some i := by
  obtain ⟨i, h, -⟩ := Option.map_eq_some_iff.1 info2
  exact ⟨i, h⟩
theorem inf42 : ∃ i, Try.prog.info? 42 = some i := by
  obtain ⟨i, h, -⟩ := Option.map_eq_some_iff.1 info42
  exact ⟨i, h⟩
theorem Sl.cut {α : Type} {k : Kd α} {w : World} {A : Option Addr} {n c m : Nat} {xs : List α} (h : Sl k w (.slice A n c) xs) (hm : m ≤ xs.length) : Sl k w (.slice A m c) (xs.take m) := by
  obtain ⟨A', c', h1, h2, h3⟩ := h
  obtain ⟨rfl, rfl, rfl⟩ := Value.slice.inj h1
  have hl : (xs.take m).length = m := by rw [List.length_take]; omega
  exact ⟨A, c, by rw [hl], by omega, by have := Kd.C_take h3 hm; exact this⟩
def doneB (t : Th) (n : Nat) : Bool := if t.st ≠ 0 then true else if t.kd ≠ 0 then false else if t.fu ≤ 0 then true else if 0 ≤ t.pc ∧ t.pc < n then false else true
theorem near_is (x : Int) (w : World) : Calls Try.prog 14 #[.int .i64 x, .int .i64 0, .int .i64 16] w fun e w' => e = .returned (.int .i64 (clampF x)) ∧ Below w.heap.size w w' := by
  refine (warrenerplain_Near.calls x 0 16 (clampF x) w ?_).mono fun e w' ⟨h1, h2⟩ => ⟨h1, h2.below⟩
  unfold warrenerplain_Near.f clampF
  by_cases h : x < 0
  · rw [if_pos h, if_pos h]
  · rw [if_neg h, if_neg h]
    by_cases h2 : 16 < x
    · rw [if_pos h2, if_pos h2]
    · rw [if_neg h2, if_neg h2]
theorem few_sl {α : Type} {k : Kd α} {w : World} {A : Option Addr} {c m : Nat} {xs : List α} (h : Sl k w (.slice A xs.length c) xs) : Sl k w (.slice A (xs.take m).length c) (xs.take m) := by
  rcases Nat.le_total m xs.length with hm | hm
  · have := Sl.cut (m := m) h hm
    rw [show (xs.take m).length = m by rw [List.length_take]; omega]
    exact this
  · rw [List.take_of_length_le hm]
    exact h
def kCode := Kd.pair (Kd.int .i64) (Kd.pair (Kd.int .i64) (Kd.pair (Kd.int .i64) (Kd.pair (Kd.int .i64) (Kd.int .i64))))
abbrev I5 := Int × Int × Int × Int × Int
theorem load_row {P : Program} (w : World) (a : Addr) (ty : TypeId) (cs : List Value) (d : TypeDesc) (hc : ∀ (j : Nat) v, cs[j]? = some v → w.cell? (a.add j) = some v) (hu : P.underlying ty = some d) (hd : d.isRow = true) (hi : (P.info? ty).map (·.size) = some cs.length) :
    (Instr.loadAt ty (.pointer (some a))).run P w = .ok (.agg cs.toArray) w := by
  have hl : (loadCells a cs.length).run P w = .ok cs.toArray w := run_loadCells_list (P := P) w a cs hc
  cases hq : P.info? ty with
  | none => simp [hq] at hi
  | some i =>
    have hs : i.size = cs.length := by simpa [hq] using hi
    have hagg : (isAgg ty).run P w = .ok true w := by
      unfold isAgg
      rw [Sem.run_bind, run_underlying hu w]
      cases d <;> simp_all
    simp [Instr.loadAt, Instr.sureAddr, loadVar, Sem.run_bind, hagg, sizeOf, typeInfo, hq, hs, hl]
theorem idx_code {ad : Addr} {n c : Nat} {i : Int} (h0 : 0 ≤ i) (h1 : i < n) (W : World) : (Instr.indexAt 49 (.slice (some ad) n c) (.int .i64 i)).run Try.prog W = .ok (.pointer (some (ad.add (i.toNat * 5)))) W := by
  have hu : (underlying 49).run Try.prog W = .ok (.slice 45) W := by kernel_rfl
  have hs : (sizeOf 45).run Try.prog W = .ok 5 W := by kernel_rfl
  simp [Instr.indexAt, Sem.run_bind, asIntOf, hu, hs, h0, h1]
structure CodeAt (w : World) (ad : Addr) (i : Int) (o a b c d : Int) : Prop where
  cell : ∀ (j : Nat) v, [Value.int .i64 o, .int .i64 a, .int .i64 b, .int .i64 c, .int .i64 d][j]? = some v → w.cell? ((ad.add (i.toNat * 5)).add j) = some v
theorem CodeAt.below {w W : World} {ad : Addr} {i o a b c d : Int} (h : CodeAt w ad i o a b c d) (hb : Below w.heap.size w W) : CodeAt W ad i o a b c d :=
  ⟨fun j v hj => (hb.cell (World.block_lt_of_cell? w _ (h.cell j v hj))).trans (h.cell j v hj)⟩
theorem code_at {w : World} {A : Option Addr} {n c : Nat} {l : List I5} (h : Sl kCode w (.slice A n c) l) {i : Int} (h0 : 0 ≤ i) (h1 : i < n) : ∃ ad o a b c' d, A = some ad ∧ CodeAt w ad i o a b c' d := by
  obtain ⟨A', c', h1', h2, h3⟩ := h
  obtain ⟨rfl, rfl, rfl⟩ := Value.slice.inj h1'
  obtain ⟨ad, cs, e, _, hK, hc0⟩ := Kd.C_get h3 ((0, 0, 0, 0, 0) : I5) i h0 h1
  have hc : ∀ j u, cs[j]? = some u → w.cell? (ad.add (i.toNat * 5 + j)) = some u := hc0
  obtain ⟨_, _, rfl, rfl, _, _, rfl, rfl, _, _, rfl, rfl, _, _, rfl, rfl, rfl⟩ := hK
  exact ⟨ad, _, _, _, _, _, e, ⟨fun j v hj => by rw [add_add]; exact hc j v hj⟩⟩
theorem five_eq (a b c d e : Int) (W : World) : (Op.equal 45 (.agg #[.int .i64 a, .int .i64 b, .int .i64 c, .int .i64 d, .int .i64 e]) (.agg #[.int .i64 a, .int .i64 b, .int .i64 c, .int .i64 d, .int .i64 e])).run Try.prog W = .ok true W := by
  show (Op.equalIn (9998 + 2) 45 _ _).run Try.prog W = _
  go_simp
theorem inf45 : ∃ i, Try.prog.info? 45 = some i := by
  cases h : Try.prog.info? 45 with
  | some i => exact ⟨i, rfl⟩
  | none =>
    have : (Try.prog.info? 45).isSome = true := by kernel_rfl
    rw [h] at this
    cases this
theorem th_DoneB {b : Bool} {t : Th} {A : Option Addr} {n c : Nat} (hd : doneB t n = b) (hn : n ≤ 9223372036854775807) (w : World) (H : ∀ w, Calls Try.prog 25 #[.agg t.cells, .slice A n c] w fun e w' => e = .returned (.bool (doneB t n)) ∧ Below w.heap.size w w') : Calls Try.prog 25 #[.agg t.cells, .slice A n c] w fun e w' => e = .returned (.bool b) ∧ Below w.heap.size w w' := by
  subst hd
  exact H w
/-- The rows are empty. -/
structure Th.empty (t : Th) : Prop where
  s : ∃ A c, t.sv = .slice A 0 c
  b : ∃ A c, t.bv = .slice A 0 c
  n : ∃ A c, t.nv = .slice A 0 c
theorem Th.empty.reads {t : Th} (h : t.empty) (W : World) : t.reads W [] [] [] := by
  obtain ⟨⟨A1, c1, e1⟩, ⟨A2, c2, e2⟩, ⟨A3, c3, e3⟩⟩ := h
  exact ⟨⟨A1, c1, e1, Nat.zero_le _, rfl, Nat.zero_le _, fun h => absurd h (by simp)⟩, ⟨A2, c2, e2, Nat.zero_le _, rfl, Nat.zero_le _, fun h => absurd h (by simp)⟩, ⟨A3, c3, e3, Nat.zero_le _, rfl, Nat.zero_le _, fun h => absurd h (by simp)⟩⟩
theorem localT_fu (t : Th) (op a b c n : Int) : (localT t op a b c n).1.fu = t.fu ∧ (localT t op a b c n).1.kd = t.kd := by
  unfold localT
  repeat' split
  all_goals exact ⟨rfl, rfl⟩
theorem clampF_range (x : Int) : 0 ≤ clampF x ∧ clampF x ≤ 16 := by
  unfold clampF
  split
  · omega
  · split <;> omega
theorem doneB_in {t : Th} {N : Nat} (hd : doneB t N = false) (hk : t.kd = 0) : 0 ≤ t.pc ∧ t.pc < N := by
  unfold doneB at hd
  split at hd
  · cases hd
  · split at hd
    · omega
    · split at hd
      · cases hd
      · split at hd
        · assumption
        · cases hd
theorem doneB_fu {t : Th} {N : Nat} (hd : doneB t N = false) (hk : t.kd = 0) : 0 < t.fu := by
  unfold doneB at hd
  split at hd
  · cases hd
  · split at hd
    · omega
    · split at hd
      · cases hd
      · omega
theorem word3_eq (a b c : Int) (W : World) : (Op.equal 25 (.agg #[.int .i64 a, .int .i64 b, .int .i64 c]) (.agg #[.int .i64 a, .int .i64 b, .int .i64 c])).run Try.prog W = .ok true W := by
  show (Op.equalIn (9998 + 2) 25 _ _).run Try.prog W = _
  go_simp
theorem st_valn {P : Program} {s : Sem Bool} {w w' : World} {b : Bool} (h : s.run P w = .ok b w') : (do pure (Value.bool (!(← s))) : Sem Value).run P w = .ok (.bool (!b)) w' := by
  simp [h]
theorem bag_blk {W : World} {base : Nat} {A : Option Addr} {c : Nat} {xs : List S42} (h : Kd.R k42 42 W base (fun _ => True) (.slice A xs.length c) xs) : xs.length = 0 ∨ ∃ gB cur, A = some ⟨gB, 0, none⟩ ∧ W.heap[gB]? = some (.cells cur 42 (0, 0)) ∧ 3 * xs.length ≤ cur.size ∧ base ≤ gB := by
  obtain ⟨inner, ho⟩ := Kd.R_own h
  rcases ho.2 with ⟨e, h0⟩ | ⟨g, cap, cur, e, hb, hh, hc, _, hs, _⟩
  · exact .inl h0
  · obtain ⟨rfl, _, _⟩ := Value.slice.inj e
    have h3 : (k42 : Kd S42).sz = 3 := rfl
    rw [h3] at hs
    exact .inr ⟨g, cur, rfl, hh, by omega, hb⟩
theorem idx_bag {gB n c i : Nat} (h1 : i < n) (W : World) : (Instr.indexAt 30 (.slice (some ⟨gB, 0, none⟩) n c) (.int .i64 (i : Int))).run Try.prog W = .ok (.pointer (some ⟨gB, 3 * i, none⟩)) W := by
  have hu : (underlying 30).run Try.prog W = .ok (.slice 42) W := by kernel_rfl
  have hs : (sizeOf 42).run Try.prog W = .ok 3 W := by kernel_rfl
  have e : (⟨gB, 0, none⟩ : Addr).add (i * 3) = ⟨gB, 3 * i, none⟩ := by rw [Addr.add_mid, Nat.zero_add, Nat.mul_comm]
  simp [Instr.indexAt, Sem.run_bind, asIntOf, hu, hs, h1, e]
theorem fld_bag {gB o : Nat} (W : World) : (Instr.fieldAt 42 (.pointer (some ⟨gB, o, none⟩)) 0).run Try.prog W = .ok (.pointer (some ⟨gB, o, none⟩)) W := by
  kernel_rfl
/-- Twelve numbers: a thread's registers. -/
def regsL (R : Nat → Int) : List Value := [.int .i64 (R 0), .int .i64 (R 1), .int .i64 (R 2), .int .i64 (R 3), .int .i64 (R 4), .int .i64 (R 5), .int .i64 (R 6), .int .i64 (R 7), .int .i64 (R 8), .int .i64 (R 9), .int .i64 (R 10), .int .i64 (R 11)]
def kRegs : Kd (Nat → Int) where
  sz := 12
  E := []
  K := fun _ R cs => cs = regsL R
  M := fun _ _ _ R cs => cs = regsL R
  K_len := fun h => by subst h; rfl
  K_one := fun h u hu => by
    subst h
    simp only [regsL, List.mem_cons, List.not_mem_nil, or_false] at hu
    rcases hu with rfl | rfl | rfl | rfl | rfl | rfl | rfl | rfl | rfl | rfl | rfl | rfl <;> rfl
  K_below := fun _ h => h
  K_of_M := fun h => h
  M_mono := fun _ h => h
  M_bound := fun h => h
  M_move := fun _ h => h
  M_lower := fun _ h => h
theorem len3 {α : Type} : ∀ {l : List α}, l.length = 3 → ∃ a b c, l = [a, b, c]
  | [a, b, c], _ => ⟨a, b, c, rfl⟩
theorem len12 {α : Type} : ∀ {l : List α}, l.length = 12 → ∃ v0 v1 v2 v3 v4 v5 v6 v7 v8 v9 v10 v11, l = [v0, v1, v2, v3, v4, v5, v6, v7, v8, v9, v10, v11]
  | [v0, v1, v2, v3, v4, v5, v6, v7, v8, v9, v10, v11], _ => ⟨v0, v1, v2, v3, v4, v5, v6, v7, v8, v9, v10, v11, rfl⟩
set_option maxRecDepth 100000 in
theorem word_open {H : Type} {enc : TypeId × Value → H} {w : World} {base : Nat} {spare : Nat → Bool} {held : Bool} {fuel : Nat} {cs : List Value} {x : DataW H × List MemPlace} (h : DataW.trod enc Try.prog w base spare held fuel 25 cs = some x) : ∃ a b c : Int, cs = [.int .i64 a, .int .i64 b, .int .i64 c] := by
  obtain ⟨xs, n, _, rfl, hl, hn, hf⟩ := DataW.trod_struct Try.underlying25 h
  have hl3 : cs.length = 3 := hl.trans (by kernel_rfl)
  obtain ⟨c0, c1, c2, rfl⟩ := len3 hl3
  have hx : ∀ i : Nat, i < 3 → ∃ y, xs[i]? = some y := fun i hi => ⟨_, List.getElem?_eq_getElem (by have : xs.length = 3 := hn.trans (by kernel_rfl); omega)⟩
  obtain ⟨y0, e0⟩ := hx 0 (by omega)
  obtain ⟨y1, e1⟩ := hx 1 (by omega)
  obtain ⟨y2, e2⟩ := hx 2 (by omega)
  have h0 := hf 0 _ rfl
  have h1 := hf 1 _ rfl
  have h2 := hf 2 _ rfl
  rw [e0] at h0
  rw [e1] at h1
  rw [e2] at h2
  obtain ⟨a, ea, _⟩ := DataW.trod_int Try.underlying2 h0
  obtain ⟨b, eb, _⟩ := DataW.trod_int Try.underlying3 h1
  obtain ⟨c, ec, _⟩ := DataW.trod_int Try.underlying3 h2
  have ea' : [c0] = [.int .i64 a] := ea
  have eb' : [c1] = [.int .i64 b] := eb
  have ec' : [c2] = [.int .i64 c] := ec
  cases ea'
  cases eb'
  cases ec'
  exact ⟨a, b, c, rfl⟩
set_option maxRecDepth 100000 in
theorem opens26 : Opens Try.prog 26 kRegs (fun _ => True) :=
  ⟨by kernel_rfl, fun {H enc w base spare held fuel cs x} hx _ => by
    obtain ⟨xs, m, _, _, hl, hn, hf⟩ := DataW.trod_array Try.underlying26 hx
    have hl12 : cs.length = 12 := hl.trans (by kernel_rfl)
    have hc : Try.prog.cellsOf 25 = 3 := by kernel_rfl
    have el : ∀ i : Nat, i < 4 → ∃ a b c : Int, (cs.drop (i * 3)).take 3 = [.int .i64 a, .int .i64 b, .int .i64 c] := fun i hi => by
      have h1 := hf i hi
      rw [List.getElem?_eq_getElem (by omega), hc] at h1
      exact word_open h1
    obtain ⟨v0, v1, v2, v3, v4, v5, v6, v7, v8, v9, v10, v11, rfl⟩ := len12 hl12
    obtain ⟨a0, b0, c0, e0⟩ := el 0 (by omega)
    obtain ⟨a1, b1, c1, e1⟩ := el 1 (by omega)
    obtain ⟨a2, b2, c2, e2⟩ := el 2 (by omega)
    obtain ⟨a3, b3, c3, e3⟩ := el 3 (by omega)
    have e0' : [v0, v1, v2] = [.int .i64 a0, .int .i64 b0, .int .i64 c0] := e0
    have e1' : [v3, v4, v5] = [.int .i64 a1, .int .i64 b1, .int .i64 c1] := e1
    have e2' : [v6, v7, v8] = [.int .i64 a2, .int .i64 b2, .int .i64 c2] := e2
    have e3' : [v9, v10, v11] = [.int .i64 a3, .int .i64 b3, .int .i64 c3] := e3
    cases e0'
    cases e1'
    cases e2'
    cases e3'
    exact ⟨fun j => [a0, b0, c0, a1, b1, c1, a2, b2, c2, a3, b3, c3].getD j 0, rfl, trivial⟩⟩
def kMicro := Kd.pair (Kd.int .i64) (Kd.pair (Kd.int .i64) (Kd.pair (Kd.int .i64) (Kd.slice 2 (Kd.int .i64))))
def kThread := Kd.pair (Kd.int .i64) (Kd.pair (Kd.int .i64) (Kd.pair (Kd.int .i64) (Kd.pair kRegs (Kd.pair kMicro (Kd.pair (Kd.slice 42 k42) (Kd.pair (Kd.slice 2 (Kd.int .i64)) (Kd.int .i64)))))))
theorem opensI : Opens Try.prog 3 (Kd.int .i64) (fun _ => True) := (Opens.int Try.underlying3 (by kernel_rfl)).mono fun _ _ => trivial
theorem opensJ : Opens Try.prog 2 (Kd.int .i64) (fun _ => True) := (Opens.int Try.underlying2 (by kernel_rfl)).mono fun _ _ => trivial
theorem opens42w : Opens Try.prog 42 k42 (fun _ => True) := by
  have h := Opens.iso (β := S42) (Opens.struct Try.underlying42 (by kernel_rfl) (OpensAt.cons opensI (OpensAt.cons opensI (OpensAt.last opensJ)))) (fun x => (x.f0, x.f1, x.f2)) (fun y => ⟨y.1, y.2.1, y.2.2⟩) (fun _ => rfl)
  exact h.mono fun _ _ => trivial
theorem opens29 : Opens Try.prog 29 kMicro (fun _ => True) :=
  (Opens.struct Try.underlying29 (by kernel_rfl) (OpensAt.cons opensI (OpensAt.cons opensI (OpensAt.cons opensJ (OpensAt.last (Opens.slice (B := 8) opensJ Try.underlying27 (by kernel_rfl) (by kernel_rfl))))))).mono fun _ _ => trivial
theorem opens32 : Opens Try.prog 32 kThread (fun _ => True) :=
  (Opens.struct Try.underlying32 (by kernel_rfl) (OpensAt.cons opensI (OpensAt.cons opensI (OpensAt.cons opensI (OpensAt.cons opens26 (OpensAt.cons opens29 (OpensAt.cons (Opens.slice (B := 24) opens42w Try.underlying30 (by kernel_rfl) (by kernel_rfl)) (OpensAt.cons (Opens.slice (B := 8) opensJ Try.underlying27 (by kernel_rfl) (by kernel_rfl)) (OpensAt.last opensI))))))))).mono fun _ _ => trivial
theorem opens23 : Opens Try.prog 23 kCode (fun _ => True) :=
  (Opens.struct Try.underlying23 (by kernel_rfl) (OpensAt.cons opensI (OpensAt.cons opensI (OpensAt.cons opensI (OpensAt.cons opensI (OpensAt.last opensI)))))).mono fun _ _ => trivial
theorem opens45 : Opens Try.prog 45 kCode (fun _ => True) :=
  (Opens.struct Try.underlying45 (by kernel_rfl) (OpensAt.cons opensI (OpensAt.cons opensI (OpensAt.cons opensI (OpensAt.cons opensI (OpensAt.last opensJ)))))).mono fun _ _ => trivial
def kWord3 := Kd.pair (Kd.int .i64) (Kd.pair (Kd.int .i64) (Kd.int .i64))
theorem opens25 : Opens Try.prog 25 kWord3 (fun _ => True) :=
  (Opens.struct Try.underlying25 (by kernel_rfl) (OpensAt.cons opensJ (OpensAt.cons opensI (OpensAt.last opensI)))).mono fun _ _ => trivial
theorem three_open {w : World} {y : _} {cs : Array Value} (h : kWord3.K w y (Value.agg cs).cells.toList) : ∃ a b c : Int, cs = #[.int .i64 a, .int .i64 b, .int .i64 c] := by
  obtain ⟨a, b, c⟩ := y
  obtain ⟨_, _, e1, rfl, _, _, rfl, rfl, rfl⟩ := h
  exact ⟨a, b, c, agg_eq e1⟩
theorem five_open {w : World} {y : _} {cs : Array Value} (h : kCode.K w y (Value.agg cs).cells.toList) : ∃ a b c d e : Int, cs = #[.int .i64 a, .int .i64 b, .int .i64 c, .int .i64 d, .int .i64 e] := by
  obtain ⟨a, b, c, d, e⟩ := y
  obtain ⟨_, _, e1, rfl, _, _, rfl, rfl, _, _, rfl, rfl, _, _, rfl, rfl, rfl⟩ := h
  exact ⟨a, b, c, d, e, agg_eq e1⟩
theorem thread_open {w : World} {y : _} {cs : Array Value} (h : kThread.K w y (Value.agg cs).cells.toList) : ∃ (t : Th) (xs : List Int) (bs : List S42) (ns : List Int) (As : Option Addr) (c1 : Nat) (Ab : Option Addr) (c2 : Nat) (An : Option Addr) (c3 : Nat),
    cs = (t.rows (.slice As xs.length c1) (.slice Ab bs.length c2) (.slice An ns.length c3)).cells ∧ (xs.length ≤ c1 ∧ bs.length ≤ c2 ∧ ns.length ≤ c3) ∧ (t.rows (.slice As xs.length c1) (.slice Ab bs.length c2) (.slice An ns.length c3)).reads w xs bs ns := by
  obtain ⟨pc, fu, st, R, ⟨kd, mi, mn, xs⟩, bs, ns, old⟩ := y
  obtain ⟨_, _, e, rfl, _, _, rfl, rfl, _, _, rfl, rfl, _, _, rfl, rfl, _, _, rfl, ⟨_, _, rfl, rfl, _, _, rfl, rfl, _, _, rfl, rfl, As, c1, rfl, h1, g1⟩, _, _, rfl, ⟨Ab, c2, rfl, h2, g2⟩, _, _, rfl, ⟨An, c3, rfl, h3, g3⟩, rfl⟩ := h
  refine ⟨⟨pc, fu, st, R, kd, mi, mn, .slice As xs.length c1, .slice Ab bs.length c2, .slice An ns.length c3, old⟩, xs, bs, ns, As, c1, Ab, c2, An, c3, ?_, ⟨h1, h2, h3⟩, ⟨⟨As, c1, rfl, h1, g1⟩, ⟨Ab, c2, rfl, h2, g2⟩, ⟨An, c3, rfl, h3, g3⟩⟩⟩
  exact agg_eq e
end Go.Proofs.Ythcmcekjgecnhaa.Th
