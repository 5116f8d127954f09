/- What a walk by pieces leans on: parts of the memory that lie apart, places in a body, regions whose order is drawn. No condition beside those that each theorem names. -/
import Derived.ArgAppend
import Derived.Laws.BytesArg
import Derived.Below
import Derived.Tactics
import Derived.KernelRfl
import Derived.Deep.LoopGhost
import Derived.OrdersHeld
import Derived.WalkKit
import Derived.RowKit3
import Derived.Maps.AppendAt
import Derived.Laws.OwnMore
namespace Go.Proofs.YtglkhjjhjhhonaaM.Mach
open Go.RowKit
set_option linter.unusedVariables false
set_option linter.unusedSimpArgs false
theorem blk_put0 {w : World} {g off : Nat} {t : TypeId} {cs cs' : Array Value} (h : w.heap[g]? = some (.cells cs t (0, 0))) (u : Value) (e : cs.setIfInBounds off u = cs') : (w.setCell ⟨g, off, none⟩ u).heap[g]? = some (.cells cs' t (0, 0)) := by
  subst e
  have hlt := (Array.getElem?_eq_some_iff.1 h).1
  simp [World.setCell, Array.getElem?_modify, h]
/-- What a part of the memory bears, and the blocks on which it hangs. -/
structure Asrt where
  holds : World → Prop
  fp : Nat → Prop
  stable : ∀ W W' : World, W'.os = W.os → W'.tape = W.tape → W'.output = W.output → W.heap.size ≤ W'.heap.size → (∀ k, fp k → W'.heap[k]? = W.heap[k]?) → holds W → holds W'
  inb : ∀ (W : World) k, holds W → fp k → k < W.heap.size
def Asrt.apart (A B : Asrt) : Prop := ∀ k, A.fp k → ¬ B.fp k
/-- What lay in w0 is as it was. -/
def old (w0 : World) : Asrt where
  holds W := Below w0.heap.size w0 W
  fp k := k < w0.heap.size
  stable := fun W W' h1 h2 h3 h4 h5 h => h.trans ⟨h1, h2, h3, h4, fun k hk => h5 k hk⟩
  inb := fun W k h hk => Nat.lt_of_lt_of_le hk h.size
/-- A block of cells. -/
abbrev Blk := Nat × TypeId × List Value
def blkA (b : Blk) : Asrt where
  holds W := W.heap[b.1]? = some (.cells b.2.2.toArray b.2.1 (0, 0))
  fp k := k = b.1
  stable := fun W W' _ _ _ _ h5 h => (h5 b.1 rfl).trans h
  inb := fun W k h hk => by
    subst hk
    exact (Array.getElem?_eq_some_iff.1 h).1
/-- What was made between two worlds is as it was at the second. -/
def snap (base : Nat) (Wc : World) : Asrt where
  holds W := Wc.heap.size ≤ W.heap.size ∧ ∀ k, base ≤ k → k < Wc.heap.size → W.heap[k]? = Wc.heap[k]?
  fp k := base ≤ k ∧ k < Wc.heap.size
  stable := fun W W' _ _ _ h4 h5 h => ⟨Nat.le_trans h.1 h4, fun k h1 h2 => (h5 k ⟨h1, h2⟩).trans (h.2 k h1 h2)⟩
  inb := fun W k h hk => Nat.lt_of_lt_of_le hk.2 h.1
structure HoldR (W : World) (R : List Asrt) : Prop where
  all : ∀ A ∈ R, A.holds W
  sep : R.Pairwise Asrt.apart
abbrev Hold (W : World) (L : List Blk) (F : List Asrt) : Prop := HoldR W (L.map blkA ++ F)
theorem Asrt.apart.symm {A B : Asrt} (h : A.apart B) : B.apart A := fun k hb ha => h k ha hb
theorem HoldR.tail {W : World} {A : Asrt} {R : List Asrt} (h : HoldR W (A :: R)) : HoldR W R := ⟨fun B hB => h.all B (List.mem_cons_of_mem _ hB), (List.pairwise_cons.1 h.sep).2⟩
theorem HoldR.sub {W : World} {R R' : List Asrt} (h : HoldR W R) (hs : List.Sublist R' R) : HoldR W R' := ⟨fun B hB => h.all B (hs.subset hB), h.sep.sublist hs⟩
theorem HoldR.perm {W : World} {R R' : List Asrt} (h : HoldR W R) (hs : List.Perm R R') : HoldR W R' := ⟨fun B hB => h.all B (hs.mem_iff.2 hB), h.sep.perm hs Asrt.apart.symm⟩
theorem HoldR.move {W W' : World} {R : List Asrt} (h : HoldR W R) (h1 : W'.os = W.os) (h2 : W'.tape = W.tape) (h3 : W'.output = W.output) (h4 : W.heap.size ≤ W'.heap.size) (h5 : ∀ A ∈ R, ∀ k, A.fp k → W'.heap[k]? = W.heap[k]?) : HoldR W' R :=
  ⟨fun A hA => A.stable W W' h1 h2 h3 h4 (h5 A hA) (h.all A hA), h.sep⟩
theorem HoldR.below {W W' : World} {R : List Asrt} (h : HoldR W R) (hb : Below W.heap.size W W') : HoldR W' R :=
  h.move hb.os hb.tape hb.output hb.size fun A hA k hk => hb.block k (A.inb W k (h.all A hA) hk)
theorem HoldR.drew {W : World} {R : List Asrt} (h : HoldR W R) : HoldR W.drew R := h.below (Below.refl _ _).drew
/-- Something that lies in new blocks. -/
theorem HoldR.cons {W W' : World} {R : List Asrt} {A : Asrt} (h : HoldR W R) (hb : Below W.heap.size W W') (hA : A.holds W') (hf : ∀ k, A.fp k → W.heap.size ≤ k) : HoldR W' (A :: R) := by
  refine ⟨fun B hB => ?_, List.pairwise_cons.2 ⟨fun B hB k hk hk' => ?_, h.sep⟩⟩
  · rcases List.mem_cons.1 hB with rfl | hB
    · exact hA
    · exact (h.below hb).all B hB
  · have h1 := hf k hk
    have h2 := B.inb W k (h.all B hB) hk'
    omega
theorem HoldR.alloc {W : World} {R : List Asrt} (h : HoldR W R) (cs : Array Value) (T : TypeId) : HoldR (W.alloc (.cells cs T)) (blkA (W.heap.size, T, cs.toList) :: R) := by
  refine h.cons ((Below.refl _ W).alloc (Nat.le_refl _) _) ?_ (fun k hk => ?_)
  · show (W.alloc (.cells cs T)).heap[W.heap.size]? = some (.cells cs.toList.toArray T (0, 0))
    rw [Array.toArray_toList]
    exact heap_alloc_new W _
  · have : k = W.heap.size := hk
    omega
/-- One part turns into another, the rest stays. -/
theorem HoldR.set {W W' : World} {R : List Asrt} {A B : Asrt} {i : Nat} (h : HoldR W R) (hi : R[i]? = some A) (h1 : W'.os = W.os) (h2 : W'.tape = W.tape) (h3 : W'.output = W.output) (h4 : W.heap.size ≤ W'.heap.size)
    (h5 : ∀ k, k < W.heap.size → ¬ A.fp k → W'.heap[k]? = W.heap[k]?) (hB : B.holds W') (hf : ∀ k, B.fp k → A.fp k ∨ W.heap.size ≤ k) : HoldR W' (R.set i B) := by
  have hil := (List.getElem?_eq_some_iff.1 hi).1
  have hiA : R[i] = A := (List.getElem?_eq_some_iff.1 hi).2
  have hap : ∀ (j : Nat) (hj : j < R.length), j ≠ i → Asrt.apart R[j] A := by
    intro j hj hne
    rcases Nat.lt_or_gt_of_ne hne with hlt | hgt
    · exact hiA ▸ List.pairwise_iff_getElem.1 h.sep j i hj hil hlt
    · exact (hiA ▸ List.pairwise_iff_getElem.1 h.sep i j hil hj hgt).symm
  have hin : ∀ (j : Nat) (hj : j < R.length) k, R[j].fp k → k < W.heap.size := fun j hj k hk => R[j].inb W k (h.all _ (List.getElem_mem hj)) hk
  have hapB : ∀ (j : Nat) (hj : j < R.length), j ≠ i → Asrt.apart R[j] B := by
    intro j hj hne k hk hkB
    rcases hf k hkB with hA | hge
    · exact hap j hj hne k hk hA
    · have := hin j hj k hk
      omega
  refine ⟨fun C hC => ?_, ?_⟩
  · obtain ⟨j, hj, rfl⟩ := List.mem_iff_getElem.1 hC
    rw [List.length_set] at hj
    rw [List.getElem_set]
    split
    · exact hB
    · rename_i hne
      have hne' : j ≠ i := fun e => hne e.symm
      exact R[j].stable W W' h1 h2 h3 h4 (fun k hk => h5 k (hin j hj k hk) (hap j hj hne' k hk)) (h.all _ (List.getElem_mem hj))
  · refine List.pairwise_iff_getElem.2 fun a b ha hb hab => ?_
    rw [List.length_set] at ha hb
    rw [List.getElem_set, List.getElem_set]
    split
    · rename_i hia
      subst hia
      rw [if_neg (by omega)]
      exact (hapB b hb (by omega)).symm
    · rename_i hia
      split
      · rename_i hib
        subst hib
        exact hapB a ha (by omega)
      · exact List.pairwise_iff_getElem.1 h.sep a b ha hb hab
theorem Hold.getL {W : World} {L : List Blk} {F : List Asrt} (h : Hold W L F) {j : Nat} {b : Blk} (hj : L[j]? = some b) : W.heap[b.1]? = some (.cells b.2.2.toArray b.2.1 (0, 0)) :=
  h.all (blkA b) (List.mem_append_left _ (List.mem_map_of_mem (List.mem_of_getElem? hj)))
theorem Hold.f {W : World} {L : List Blk} {F : List Asrt} (h : Hold W L F) (i : Nat) {A : Asrt} (hi : F[i]? = some A) : A.holds W := h.all A (List.mem_append_right _ (List.mem_of_getElem? hi))
theorem Hold.ff {W : World} {L : List Blk} {F : List Asrt} (h : Hold W L F) : HoldR W F := h.sub (List.sublist_append_right _ _)
theorem Hold.store {W : World} {L : List Blk} {F : List Asrt} (h : Hold W L F) {j g T : Nat} {cs : List Value} (hj : L[j]? = some (g, T, cs)) (o : Nat) (v : Value) : Hold (W.setCell ⟨g, o, none⟩ v) (L.set j (g, T, cs.set o v)) F := by
  have hjl := (List.getElem?_eq_some_iff.1 hj).1
  have hb := Hold.getL h hj
  have hR : (L.map blkA ++ F)[j]? = some (blkA (g, T, cs)) := by
    rw [List.getElem?_append_left (by simpa using hjl), List.getElem?_map, hj]
    rfl
  have hs := h.set (W' := W.setCell ⟨g, o, none⟩ v) (B := blkA (g, T, cs.set o v)) hR rfl rfl rfl (by simp [World.setCell]) (fun k _ hk => Below.heap_setCell W ⟨g, o, none⟩ v k hk) ?_ (fun k hk => .inl hk)
  · have e : (L.map blkA ++ F).set j (blkA (g, T, cs.set o v)) = (L.set j (g, T, cs.set o v)).map blkA ++ F := by
      rw [List.set_append_left _ _ (by simpa using hjl), List.map_set]
    rw [e] at hs
    exact hs
  · show (W.setCell ⟨g, o, none⟩ v).heap[g]? = _
    exact blk_put0 hb v (by simp)
/-- What stands behind the place at hand. -/
inductive Fr where
  | code (c : Code)
  | ops (all : Array Oper) (rest : List Oper)
  | inBlock (id : Nat)
  | post (I : Act → World → Prop)
def KK (P : Program) (Q : Exit → Act → World → Prop) : List Fr → Exit → Act → World → Prop
  | [] => Q
  | .code c :: fs => Exit.then (c.wp P (KK P Q fs)) (KK P Q fs)
  | .ops all rest :: fs => Exit.then (wpList P all (KK P Q fs) rest) (KK P Q fs)
  | .inBlock id :: fs => Exit.inBlock id (KK P Q fs)
  | .post I :: fs => Exit.then I (KK P Q fs)
structure St where
  fs : List Fr
  l : List Value
  L : List Blk
def Go (P : Program) (Q : Exit → Act → World → Prop) (F : List Asrt) (s : St) : Prop := ∀ W, Hold W s.L F → KK P Q s.fs .normal ⟨s.l.toArray, []⟩ W
def evl (l : List Value) : Operand → Value
  | .tmp t => l.getD t undef
  | .const v => v
  | .global g => .pointer (some ⟨g, 0, none⟩)
  | .func f => .func (.func f) #[] #[]
theorem evl_eq (l : List Value) : (⟨l.toArray, []⟩ : Act).eval = evl l := by
  funext x
  cases x <;> simp [Act.eval, evl]
def setd (l : List Value) : Option Tmp → Value → List Value
  | some d, v => l.set d v
  | none, _ => l
theorem put_eq (l : List Value) (d : Option Tmp) (v : Value) : (⟨l.toArray, []⟩ : Act).put d v = ⟨(setd l d v).toArray, []⟩ := by
  cases d <;> simp [Act.put, setd]
def yl (ops : Array Oper) (l : List Value) (j : Nat) : Option Bool :=
  match ((ops[j]?).bind (·.dst)).bind (l[·]?) with
  | some (.bool b) => some b
  | _ => none
theorem yl_eq (ops : Array Oper) (l : List Value) : yielded ops l.toArray = yl ops l := by
  funext j
  unfold yielded yl
  simp only [List.getElem?_toArray]
  rfl
def wantd (ops : Array Oper) (l : List Value) (o : Oper) : Bool :=
  match o.guard with
  | none => true
  | some (j, want) => yl ops l j == some want
theorem wantd_eq (ops : Array Oper) (l : List Value) (o : Oper) : Region.wanted o (yielded ops l.toArray) = wantd ops l o := by
  unfold Region.wanted wantd
  rw [yl_eq]
  rfl
/-- Where an exit leads. -/
def exitFr (id : Nat) : List Fr → Option (List Fr)
  | [] => none
  | .inBlock id' :: fs => if id = id' then some fs else exitFr id fs
  | _ :: fs => exitFr id fs
def ctl (s : St) : Option St :=
  match s.fs with
  | .code .skip :: fs => some ⟨fs, s.l, s.L⟩
  | .code (.seq x y) :: fs => some ⟨.code x :: .code y :: fs, s.l, s.L⟩
  | .code (.cond c x y) :: fs => match evl s.l c with
    | .bool true => some ⟨.code x :: fs, s.l, s.L⟩
    | .bool false => some ⟨.code y :: fs, s.l, s.L⟩
    | _ => none
  | .code (.block id c) :: fs => some ⟨.code c :: .inBlock id :: fs, s.l, s.L⟩
  | .code (.exit id) :: fs => (exitFr id fs).map fun fs => ⟨fs, s.l, s.L⟩
  | .code (.region _ ops false) :: fs => some ⟨.ops ops ops.toList :: fs, s.l, s.L⟩
  | .ops _ [] :: fs => some ⟨fs, s.l, s.L⟩
  | .inBlock _ :: fs => some ⟨fs, s.l, s.L⟩
  | _ => none
section
variable {P : Program} {Q : Exit → Act → World → Prop} {F : List Asrt}
theorem KK_exit {id : Nat} {a : Act} {W : World} : ∀ {fs fs' : List Fr}, exitFr id fs = some fs' → KK P Q fs' .normal a W → KK P Q fs (.exit id) a W
  | [], _, h, _ => by cases h
  | .inBlock id' :: fs, fs', h, hk => by
    simp only [exitFr] at h
    show Exit.inBlock id' (KK P Q fs) (.exit id) a W
    simp only [Exit.inBlock]
    split at h
    · rename_i e
      cases h
      rw [if_pos e]
      exact hk
    · rename_i e
      rw [if_neg e]
      exact KK_exit h hk
  | .code c :: fs, fs', h, hk => KK_exit (fs := fs) h hk
  | .ops all rest :: fs, fs', h, hk => KK_exit (fs := fs) h hk
  | .post I :: fs, fs', h, hk => KK_exit (fs := fs) h hk
theorem KK_ret {a : Act} {W : World} : ∀ {fs : List Fr}, Q .ret a W → KK P Q fs .ret a W
  | [], h => h
  | .inBlock _ :: fs, h => KK_ret (fs := fs) h
  | .code _ :: fs, h => KK_ret (fs := fs) h
  | .ops _ _ :: fs, h => KK_ret (fs := fs) h
  | .post _ :: fs, h => KK_ret (fs := fs) h
theorem ctl_sound {s s' : St} (h : ctl s = some s') (hg : Go P Q F s') : Go P Q F s := by
  obtain ⟨fs, l, L⟩ := s
  intro W hW
  cases fs with
  | nil => cases h
  | cons f fs =>
    cases f with
    | code c =>
      cases c <;> simp only [ctl] at h
      case skip => cases h; exact wp_skip (hg W hW)
      case seq x y => cases h; exact wp_seq (hg W hW)
      case cond c x y =>
        split at h
        · rename_i hc
          cases h
          exact wp_cond_true (by rw [evl_eq]; exact hc) (hg W hW)
        · rename_i hc
          cases h
          exact wp_cond_false (by rw [evl_eq]; exact hc) (hg W hW)
        · cases h
      case block id c => cases h; exact wp_block (hg W hW)
      case exit id =>
        obtain ⟨fs', hf, rfl⟩ := Option.map_eq_some_iff.1 h
        exact wp_exit (KK_exit hf (hg W hW))
      case region id ops d =>
        cases d
        · cases h
          exact wp_region_list (hg W hW)
        · cases h
      all_goals cases h
    | ops all rest =>
      cases rest with
      | nil => cases h; exact hg W hW
      | cons o r => cases h
    | inBlock id => cases h; exact hg W hW
    | post I => cases h
/-- A reckoning that asks no memory. -/
def semP {α : Type} (P : Program) : Sem α → Option α
  | .pure a => some a
  | .program k => semP P (k P)
  | .mark _ k => semP P k
  | _ => none
theorem semP_run {α : Type} : ∀ (s : Sem α) (v : α) (W : World), semP P s = some v → s.run P W = .ok v W
  | .pure a, v, W, h => by cases h; rfl
  | .program k, v, W, h => by
    have := semP_run (k P) v W h
    simpa [Sem.run] using this
  | .mark _ k, v, W, h => by
    have := semP_run k v W h
    simpa [Sem.run] using this
def ldC (L : List Blk) (a : Addr) : List Nat → Option (Value × Nat × List Nat)
  | [] => none
  | j :: js => match L[j]? with
    | none => none
    | some b => match a.spot, b.2.2[a.off]? with
      | none, some v => some (v, b.1, js)
      | _, _ => none
def cellV : Value → Bool
  | .agg _ => false
  | .tuple _ => false
  | _ => true
def stC (L : List Blk) (a : Addr) (v : Value) : List Nat → Option (List Blk × Nat × List Nat)
  | [] => none
  | j :: js => match L[j]? with
    | none => none
    | some b => match a.spot, Nat.blt a.off b.2.2.length, cellV v with
      | none, true, true => some (L.set j (b.1, b.2.1, b.2.2.set a.off v), b.1, js)
      | _, _, _ => none
def nwC (g : Nat) (L : List Blk) : Bool → Obj → Option (List Blk)
  | true, .cells cs T (0, 0) => some ((g, T, cs.toList) :: L)
  | _, _ => none
/-- A reckoning over blocks that are known: what comes, the blocks behind it, what is left of the hints, and the addresses that must be the blocks' own. -/
def sym {α : Type} (P : Program) (g : Nat) : Sem α → Bool → List Nat → List Blk → Option (α × List Blk × List Nat × List (Nat × Nat))
  | .pure a, _, js, L => some (a, L, js, [])
  | .program k, f, js, L => sym P g (k P) f js L
  | .mark _ k, f, js, L => sym P g k f js L
  | .load _ a k, f, js, L => match ldC L a js with
    | some (v, b, js') => (sym P g (k v) f js' L).map fun r => (r.1, r.2.1, r.2.2.1, (a.block, b) :: r.2.2.2)
    | none => none
  | .store _ a v k, f, js, L => match stC L a v js with
    | some (L', b, js') => (sym P g k f js' L').map fun r => (r.1, r.2.1, r.2.2.1, (a.block, b) :: r.2.2.2)
    | none => none
  | .new o k, f, js, L => match nwC g L f o with
    | some L' => sym P g (k g) false js L'
    | none => none
  | _, _, _, _ => none
def Same (E : List (Nat × Nat)) : Prop := ∀ p ∈ E, p.1 = p.2
theorem ldC_spec {L : List Blk} {F : List Asrt} {a : Addr} {js js' : List Nat} {v : Value} {b : Nat} {W : World} (h : ldC L a js = some (v, b, js')) (hb : a.block = b) (hW : Hold W L F) : W.cell? a = some v := by
  cases js with
  | nil => cases h
  | cons j js =>
    simp only [ldC] at h
    split at h
    · cases h
    · rename_i bl hj
      split at h
      · rename_i u hsp hu
        cases h
        obtain ⟨ab, ao, asp⟩ := a
        simp only at hsp hu hb
        subst hsp hb
        have hc := Hold.getL hW hj
        simp [World.cell?, hc, hu]
      · cases h
theorem stC_spec {L L' : List Blk} {F : List Asrt} {a : Addr} {js js' : List Nat} {v : Value} {b : Nat} {W : World} (h : stC L a v js = some (L', b, js')) (hb : a.block = b) (hW : Hold W L F) : (∃ u, W.cell? a = some u) ∧ W.frozen? a = false ∧ cellV v = true ∧ Hold (W.setCell a v) L' F := by
  cases js with
  | nil => cases h
  | cons j js =>
    simp only [stC] at h
    split at h
    · cases h
    · rename_i bl hj
      split at h
      · rename_i hsp hlt hv
        cases h
        obtain ⟨ab, ao, asp⟩ := a
        simp only at hsp hlt hb
        subst hsp hb
        have hc := Hold.getL hW hj
        have hlt' : ao < bl.2.2.length := by simpa [Nat.blt_eq] using hlt
        exact ⟨⟨bl.2.2[ao], by simp [World.cell?, hc, hlt']⟩, by simp [World.frozen?, hc], hv, Hold.store hW hj ao v⟩
      · cases h
theorem nwC_spec {L L' : List Blk} {F : List Asrt} {f : Bool} {o : Obj} {W : World} (h : nwC W.heap.size L f o = some L') (hW : Hold W L F) : f = true ∧ Hold (W.alloc o) L' F := by
  unfold nwC at h
  split at h
  · cases h
    exact ⟨rfl, hW.alloc _ _⟩
  · cases h
theorem run_load_cell {α : Type} {W : World} {m : Mode} {a : Addr} {k : Value → Sem α} {v : Value} (h : W.cell? a = some v) : (Sem.load m a k).run P W = (k v).run P W := by
  simp [Sem.run, h]
theorem run_store_cell {α : Type} {W : World} {m : Mode} {a : Addr} {k : Sem α} {v u : Value} (h : W.cell? a = some u) (hf : W.frozen? a = false) (h1 : cellV v = true) : (Sem.store m a v k).run P W = k.run P (W.setCell a v) := by
  cases v <;> first | (cases h1; done) | simp [Sem.run, h, hf]
theorem sym_run {α : Type} (g : Nat) : ∀ (s : Sem α) (f : Bool) (js : List Nat) (L : List Blk) (W : World) (v : α) (L' : List Blk) (js' : List Nat) (E : List (Nat × Nat)),
    sym P g s f js L = some (v, L', js', E) → Same E → (f = true → g = W.heap.size) → Hold W L F → ∃ W', s.run P W = .ok v W' ∧ Hold W' L' F := by
  intro s
  induction s with
  | pure a => intro f js L W v L' js' E h hE hg hW; cases h; exact ⟨W, rfl, hW⟩
  | program k ih =>
    intro f js L W v L' js' E h hE hg hW
    obtain ⟨W', h1, h2⟩ := ih P f js L W v L' js' E h hE hg hW
    exact ⟨W', by simpa [Sem.run] using h1, h2⟩
  | mark m k ih =>
    intro f js L W v L' js' E h hE hg hW
    obtain ⟨W', h1, h2⟩ := ih f js L W v L' js' E h hE hg hW
    exact ⟨W', by simpa [Sem.run] using h1, h2⟩
  | load m a k ih =>
    intro f js L W v L' js' E h hE hg hW
    simp only [sym] at h
    split at h
    · rename_i u b js1 hl
      obtain ⟨r, hr, e⟩ := Option.map_eq_some_iff.1 h
      obtain ⟨r1, r2, r3, r4⟩ := r
      cases e
      have hc := ldC_spec hl (hE _ List.mem_cons_self) hW
      obtain ⟨W', h1, h2⟩ := ih u f js1 L W r1 r2 r3 r4 hr (fun p hp => hE p (List.mem_cons_of_mem _ hp)) hg hW
      exact ⟨W', by rw [run_load_cell hc]; exact h1, h2⟩
    · cases h
  | store m a u k ih =>
    intro f js L W v L' js' E h hE hg hW
    simp only [sym] at h
    split at h
    · rename_i L1 b js1 hl
      obtain ⟨r, hr, e⟩ := Option.map_eq_some_iff.1 h
      obtain ⟨r1, r2, r3, r4⟩ := r
      cases e
      obtain ⟨⟨x, hc⟩, hf, hv, hH⟩ := stC_spec hl (hE _ List.mem_cons_self) hW
      obtain ⟨W', h1, h2⟩ := ih f js1 L1 (W.setCell a u) r1 r2 r3 r4 hr (fun p hp => hE p (List.mem_cons_of_mem _ hp)) (fun hf => by rw [hg hf]; simp [World.setCell]) hH
      exact ⟨W', by rw [run_store_cell hc hf hv]; exact h1, h2⟩
    · cases h
  | new o k ih =>
    intro f js L W v L' js' E h hE hg hW
    simp only [sym] at h
    split at h
    · rename_i L1 hl
      have hft : f = true := by
        unfold nwC at hl
        split at hl
        · rfl
        · cases hl
      have e := hg hft
      subst e
      obtain ⟨_, hH⟩ := nwC_spec hl hW
      obtain ⟨W', h1, h2⟩ := ih W.heap.size false js L1 (W.alloc o) v L' js' E h hE (fun e => by cases e) hH
      exact ⟨W', h1, h2⟩
    · cases h
  | _ => intro f js L W v L' js' E h; simp [sym] at h
end
section
variable {P : Program} {Q : Exit → Act → World → Prop} {F : List Asrt}
/-- An element's address in a slice. -/
def idxStep (P : Program) (l : List Value) : Op → Option (Value × Prop)
  | .indexAddr t x i => match P.underlying t, evl l x, evl l i with
    | some (.slice e), .slice (some ⟨B, o, none⟩) n _, .int _ j => match P.info? e with
      | some inf => some (.pointer (some ⟨B, o + j.toNat * inf.size, none⟩), 0 ≤ j ∧ j < n)
      | none => none
    | _, _, _ => none
  | _ => none
/-- One operation. -/
def opStep (P : Program) (g : Nat) (all : Array Oper) (o : Oper) (js : List Nat) (rv : Option Value) (l : List Value) (L : List Blk) : Option (List Value × List Blk × List Nat × List (Nat × Nat) × List Prop) :=
  match wantd all l o with
  | false => some (setd l o.dst undef, L, js, [], [])
  | true => match idxStep P l o.op with
    | some (v, p) => match rv with
      | none => some (setd l o.dst v, L, js, [], [p])
      | some _ => none
    | none => match sym P g (execOp (evl l) o) true js L with
      | some (.value v, L', js', E) => match rv with
        | none => some (setd l o.dst v, L', js', E, [])
        | some u => some (setd l o.dst u, L', js', E, [v = u])
      | some (.skip, L', js', E) => some (setd l o.dst undef, L', js', E, [])
      | _ => none
theorem run_und {t : TypeId} {d : TypeDesc} (h : P.underlying t = some d) (W : World) : (underlying t).run P W = .ok d W := by
  simp [underlying, program, Sem.run_bind, Sem.run, h]
theorem run_size {t : TypeId} {i : TypeInfo} (h : P.info? t = some i) (W : World) : (sizeOf t).run P W = .ok i.size W := by
  simp [sizeOf, typeInfo, program, Sem.run_bind, Sem.run, h]
theorem Addr.add_at (B o n : Nat) : (⟨B, o, none⟩ : Addr).add n = ⟨B, o + n, none⟩ := by
  unfold Addr.add
  split
  · rename_i h
    subst h
    rfl
  · rfl
theorem idx_run {o : Oper} {l : List Value} {v : Value} {p : Prop} (h : idxStep P l o.op = some (v, p)) (hp : p) (W : World) : (execOp (evl l) o).run P W = .ok (.value v) W := by
  obtain ⟨dst, op, type, pos, after, guard⟩ := o
  cases op <;> simp only [idxStep] at h <;> try cases h
  case indexAddr t x i =>
    split at h
    · rename_i e B off n c k j hu hx hi
      split at h
      · rename_i inf hinf
        cases h
        simp only [execOp, hx, hi]
        simp [Instr.indexAt, Sem.run_bind, asIntOf, run_und hu, run_size hinf, hp.1, hp.2, Addr.add_at]
      · cases h
    · cases h
theorem op_sound {all : Array Oper} {o : Oper} {r : List Oper} {js js' : List Nat} {rv : Option Value} {l l' : List Value} {L L' : List Blk} {E : List (Nat × Nat)} {B : List Prop} {K : Exit → Act → World → Prop} {W : World}
    (h : opStep P W.heap.size all o js rv l L = some (l', L', js', E, B)) (hE : Same E) (hB : ∀ p ∈ B, p) (hW : Hold W L F) (hn : ∀ W', Hold W' L' F → wpList P all K r ⟨l'.toArray, []⟩ W') : wpList P all K (o :: r) ⟨l.toArray, []⟩ W := by
  refine wpList_step fun K' hK => ?_
  have hw : Region.wanted o (yielded all (⟨l.toArray, []⟩ : Act).tmps) = wantd all l o := wantd_eq all l o
  unfold opStep at h
  split at h
  · rename_i hg
    cases h
    rw [hw, hg, put_eq]
    exact hK _ _ (hn W hW)
  · rename_i hg
    rw [if_pos (hw.trans hg)]
    unfold Oper.wp
    rw [evl_eq]
    split at h
    · rename_i v p hix
      split at h
      · cases h
        rw [idx_run hix (hB p List.mem_cons_self) W, Oper.upon_value, put_eq]
        exact hK _ _ (hn W hW)
      · cases h
    · split at h
      · rename_i v L1 js1 E1 hs
        have key : Same E1 ∧ ∃ u, v = u ∧ l' = setd l o.dst u ∧ L1 = L' := by
          split at h
          · cases h; exact ⟨hE, v, rfl, rfl, rfl⟩
          · cases h; exact ⟨hE, _, hB _ List.mem_cons_self, rfl, rfl⟩
        obtain ⟨hE1, u, rfl, rfl, rfl⟩ := key
        obtain ⟨W', h1, h2⟩ := sym_run W.heap.size _ true js L W _ _ _ _ hs hE1 (fun _ => rfl) hW
        rw [h1, Oper.upon_value, put_eq]
        exact hK _ _ (hn W' h2)
      · rename_i L1 js1 E1 hs
        cases h
        obtain ⟨W', h1, h2⟩ := sym_run W.heap.size _ true js L W _ _ _ _ hs hE (fun _ => rfl) hW
        rw [h1, Oper.upon_skip, put_eq]
        exact hK _ _ (hn W' h2)
      · cases h
structure Res where
  s : St
  E : List (Nat × Nat)
  B : List Prop
def rv1 (c : Nat) : List (Nat × Value) → Option Value
  | (k, u) :: _ => if Nat.beq k c then some u else none
  | [] => none
def rv2 (c : Nat) : List (Nat × Value) → List (Nat × Value)
  | (k, u) :: r => if Nat.beq k c then r else (k, u) :: r
  | [] => []
/-- From one place to another: operations up to number m, and what is control. -/
def run (P : Program) (γ : Nat → Nat) (m : Nat) : Nat → Nat → List Nat → List (Nat × Value) → St → Option Res
  | 0, _, _, _, _ => none
  | fuel + 1, c, js, rp, s => match ctl s with
    | some s' => run P γ m fuel c js rp s'
    | none => match s.fs with
      | .ops all (o :: r) :: fs => match Nat.beq c m with
        | true => some ⟨s, [], []⟩
        | false => match opStep P (γ c) all o js (rv1 c rp) s.l s.L with
          | some (l', L', js', E, B) => (run P γ m fuel (c + 1) js' (rv2 c rp) ⟨.ops all r :: fs, l', L'⟩).map fun q => ⟨q.s, E ++ q.E, B ++ q.B⟩
          | none => none
      | _ => some ⟨s, [], []⟩
theorem run_sound (m : Nat) : ∀ (fuel c : Nat) (js : List Nat) (rp : List (Nat × Value)) (s : St) (γ0 : Nat → Nat),
    (∀ γ : Nat → Nat, (∀ i, i < c → γ i = γ0 i) → ∃ r, run P γ m fuel c js rp s = some r ∧ Same r.E ∧ (∀ p ∈ r.B, p) ∧ Go P Q F r.s) → Go P Q F s
  | 0, c, js, rp, s, γ0, H => by
    obtain ⟨r, h, _⟩ := H γ0 fun _ _ => rfl
    cases h
  | fuel + 1, c, js, rp, s, γ0, H => by
    cases hc : ctl s with
    | some s' =>
      refine ctl_sound hc (run_sound m fuel c js rp s' γ0 fun γ hγ => ?_)
      obtain ⟨r, h, h2⟩ := H γ hγ
      simp only [run, hc] at h
      exact ⟨r, h, h2⟩
    | none =>
      obtain ⟨r, h, hE, hB, hG⟩ := H γ0 fun _ _ => rfl
      simp only [run, hc] at h
      split at h
      · rename_i all o rest fs hfs
        split at h
        · cases h; exact hG
        · rename_i hcm
          intro W hW
          obtain ⟨r, h, hE, hB, hG⟩ := H (fun i => if i = c then W.heap.size else γ0 i) fun i hi => by rw [if_neg (by omega)]
          simp only [run, hc, hfs, hcm, if_true] at h
          split at h
          · rename_i l' L' js' E B hop
            obtain ⟨q, hq, e⟩ := Option.map_eq_some_iff.1 h
            subst e
            rw [hfs]
            refine op_sound hop (fun p hp => hE p (List.mem_append_left _ hp)) (fun p hp => hB p (List.mem_append_left _ hp)) hW ?_
            refine run_sound m fuel (c + 1) js' (rv2 c rp) ⟨.ops all rest :: fs, l', L'⟩ (fun i => if i = c then W.heap.size else γ0 i) fun γ hγ => ?_
            obtain ⟨r2, h2, hE2, hB2, hG2⟩ := H γ fun i hi => by rw [hγ i (by omega), if_neg (by omega)]
            have hgc : γ c = W.heap.size := by rw [hγ c (by omega), if_pos rfl]
            simp only [run, hc, hfs, hcm, hgc, hop] at h2
            obtain ⟨q2, hq2, e2⟩ := Option.map_eq_some_iff.1 h2
            subst e2
            exact ⟨q2, hq2, fun p hp => hE2 p (List.mem_append_right _ hp), fun p hp => hB2 p (List.mem_append_right _ hp), hG2⟩
          · cases h
      · cases h; exact hG
/-- A row of numbers, each with how often. -/
def rl : List (Nat × Nat) → List Nat
  | [] => []
  | (n, x) :: r => List.replicate n x ++ rl r
def dup : List (Nat × Nat) → List (Nat × Nat)
  | [] => []
  | (n, x) :: r => List.replicate n (x, x) ++ dup r
theorem dup_same : ∀ E, Same (dup E)
  | [], p, h => by cases h
  | (n, x) :: r, p, h => by
    rcases List.mem_append.1 h with h | h
    · obtain ⟨_, rfl⟩ := List.mem_replicate.1 h
      rfl
    · exact dup_same r p h
inductive AllB : List Prop → Prop
  | nil : AllB []
  | cons {p : Prop} {l : List Prop} (h : p) (t : AllB l) : AllB (p :: l)
theorem AllB.spec {l : List Prop} (h : AllB l) : ∀ p ∈ l, p := by
  induction h with
  | nil => intro p h; cases h
  | cons h t ih =>
    intro p hp
    rcases List.mem_cons.1 hp with rfl | hp
    · exact h
    · exact ih p hp
/-- A piece of the walk. -/
theorem ck {s : St} (m : Nat) (js : List (Nat × Nat)) (rp : List (Nat × Value)) (H : ∀ γ : Nat → Nat, ∃ (s' : St) (E : List (Nat × Nat)) (B : List Prop), run P γ m 4000 0 (rl js) rp s = some ⟨s', dup E, B⟩ ∧ AllB B ∧ Go P Q F s') : Go P Q F s :=
  run_sound m 4000 0 (rl js) rp s (fun _ => 0) fun γ _ => let ⟨s', E, B, h, hB, hG⟩ := H γ; ⟨_, h, dup_same E, hB.spec, hG⟩
def norm : Nat → St → St
  | 0, s => s
  | n + 1, s => match ctl s with
    | some s' => norm n s'
    | none => s
theorem norm_sound : ∀ (n : Nat) {s : St}, Go P Q F (norm n s) → Go P Q F s
  | 0, _, h => h
  | n + 1, s, h => by
    simp only [norm] at h
    split at h
    · rename_i s' hc
      exact ctl_sound hc (norm_sound n h)
    · exact h
abbrev nm (s : St) : St := norm 400 s
def opAt (s : St) : Option Oper :=
  match s.fs with
  | .ops all (o :: _) :: _ => match wantd all s.l o with
    | true => some o
    | false => none
  | _ => none
def adv (s : St) (v : Value) : St :=
  match s.fs with
  | .ops all (o :: r) :: fs => ⟨.ops all r :: fs, setd s.l o.dst v, s.L⟩
  | _ => s
theorem opAt_spec {s : St} {o : Oper} (h : opAt s = some o) : ∃ all r fs, s.fs = .ops all (o :: r) :: fs ∧ wantd all s.l o = true ∧ ∀ v, adv s v = ⟨.ops all r :: fs, setd s.l o.dst v, s.L⟩ := by
  unfold opAt at h
  split at h
  · rename_i all o' r fs hfs
    split at h
    · rename_i hw
      cases h
      exact ⟨all, r, fs, hfs, hw, fun v => by simp only [adv, hfs]⟩
    · cases h
  · cases h
/-- An operation whose value is told. -/
theorem ev {s : St} (x : Sem Next) (v : Value) (h : (opAt (nm s)).map (execOp (evl (nm s).l)) = some x) (hv : ∀ W, HoldR W F → x.run P W = .ok (.value v) W) (hn : Go P Q F (adv (nm s) v)) : Go P Q F s := by
  refine norm_sound 400 ?_
  obtain ⟨o, ho, rfl⟩ := Option.map_eq_some_iff.1 h
  obtain ⟨all, r, fs, hfs, hw, hadv⟩ := opAt_spec ho
  intro W hW
  rw [hfs]
  refine wpList_step fun K hK => ?_
  rw [if_pos ((wantd_eq all _ o).trans hw)]
  unfold Oper.wp
  rw [evl_eq, hv W (Hold.ff hW), Oper.upon_value, put_eq]
  refine hK _ _ ?_
  have := hn W
  rw [hadv] at this
  exact this hW
def callAt (P : Program) (s : St) : Option (FuncId × Array Value) :=
  match opAt s with
  | some o => match semP P (execOp (evl s.l) o) with
    | some (.enter f args) => some (f, args)
    | _ => none
  | none => none
theorem cl0 {s : St} {f : FuncId} {args : Array Value} (R : World → Ending → World → Prop) (h : callAt P (nm s) = some (f, args)) (hc : ∀ W, Hold W (nm s).L F → Calls P f args W (R W)) (hn : ∀ W, Hold W (nm s).L F → ∀ e W', R W e W' → ∃ v F', e = .returned v ∧ Hold W' (nm s).L F' ∧ Go P Q F' (adv (nm s) v)) : Go P Q F s := by
  refine norm_sound 400 ?_
  unfold callAt at h
  split at h
  · rename_i o ho
    split at h
    · rename_i f' args' hs
      cases h
      obtain ⟨all, r, fs, hfs, hw, hadv⟩ := opAt_spec ho
      intro W hW
      rw [hfs]
      refine wpList_step fun K hK => ?_
      rw [if_pos ((wantd_eq all _ o).trans hw)]
      unfold Oper.wp
      rw [evl_eq, semP_run _ _ W hs, Oper.upon_enter]
      refine (hc W hW).mono fun e W' hR => ?_
      obtain ⟨v, F', rfl, hH, hG⟩ := hn W hW e W' hR
      show K _ _
      rw [put_eq]
      refine hK _ _ ?_
      have := hG W'
      rw [hadv] at this
      exact this hH
    · cases h
  · cases h
/-- A call that answers a value. -/
theorem cp {s : St} {f : FuncId} {args : Array Value} {v : Value} (hc : ∀ W, HoldR W F → Calls P f args W fun e W' => e = .returned v ∧ Below W.heap.size W W') (hn : Go P Q F (adv (nm s) v)) (h : callAt P (nm s) = some (f, args) := by kernel_rfl) : Go P Q F s :=
  cl0 (fun W e W' => e = .returned v ∧ Below W.heap.size W W') h (fun W hW => hc W (Hold.ff hW)) fun W hW e W' ⟨he, hb⟩ => ⟨v, F, he, HoldR.below hW hb, hn⟩
/-- A call that answers something of its own. -/
theorem co {s : St} {f : FuncId} {args : Array Value} {X : Type} {v : X → Value} {Φ : X → Nat → World → Prop} (hc : ∀ W, HoldR W F → Calls P f args W fun e W' => ∃ x, e = .returned (v x) ∧ Φ x W.heap.size W' ∧ Below W.heap.size W W')
    (hn : ∀ (x : X) (b : Nat) (Wc : World), Φ x b Wc → Go P Q (snap b Wc :: F) (adv (nm s) (v x))) (h : callAt P (nm s) = some (f, args) := by kernel_rfl) : Go P Q F s :=
  cl0 (fun W e W' => ∃ x, e = .returned (v x) ∧ Φ x W.heap.size W' ∧ Below W.heap.size W W') h (fun W hW => hc W (Hold.ff hW)) fun W hW e W' ⟨x, he, hx, hb⟩ => by
    refine ⟨v x, snap W.heap.size W' :: F, he, ?_, hn x _ _ hx⟩
    have h1 : HoldR W' (snap W.heap.size W' :: (List.map blkA (nm s).L ++ F)) := HoldR.cons hW hb ⟨Nat.le_refl _, fun _ _ _ => rfl⟩ fun k hk => hk.1
    exact h1.perm List.perm_middle.symm
end
section
variable {P : Program} {Q : Exit → Act → World → Prop} {F : List Asrt}
/-- The place in a body: a path. -/
def kt : Code → List Nat → List Fr → List Fr
  | .seq x y, 0 :: p, fs => kt x p (.code y :: fs)
  | .seq _ y, _ :: p, fs => kt y p fs
  | .block id c, _ :: p, fs => kt c p (.inBlock id :: fs)
  | .cond _ x _, 0 :: p, fs => kt x p fs
  | .cond _ _ y, _ :: p, fs => kt y p fs
  | .region _ ops _, k :: _, fs => .ops ops (ops.toList.drop k) :: fs
  | .loop c, _ :: p, fs => kt c p fs
  | c, _, fs => .code c :: fs
/-- Within a loop. -/
def ktl (p : List Nat) (I : Act → World → Prop) : List Fr → List Fr
  | .code (.loop c) :: fs => kt c p (.post I :: fs)
  | fs => fs
/-- A row of values, some other than in b. -/
def upv (b : List Value) : List (Nat × Value) → List Value
  | [] => b
  | (i, v) :: r => upv (b.set i v) r
def ini (args : List Value) (n : Nat) : List Value := args ++ List.replicate (n - args.length) undef
theorem enter {f : FuncId} {fn : Func} {c : Code} {args : List Value} {w : World} {R : Ending → World → Prop} (hf : P.funcs[f]? = some fn) (hb : fn.body = some c) (h : Go P (bodyPost P fn R) [old w] ⟨[.code c], ini args fn.ntmps, []⟩) : Calls P f args.toArray w R := by
  refine calls_of_wp hf hb ?_
  have e : args.toArray ++ Array.replicate (fn.ntmps - args.toArray.size) undef = (ini args fn.ntmps).toArray := by
    simp [ini]
  rw [e]
  have h0 : Hold w ([] : List Blk) [old w] := ⟨fun A hA => by
    have : A = old w := by simpa using hA
    subst this
    exact Below.refl _ _, by simp⟩
  exact wp_mono (h w h0) fun e a w' q => q
/-- A reckoning that reads blocks that are known. -/
def symL {α : Type} (P : Program) : Sem α → List Nat → List Blk → Option (α × List Nat × List (Nat × Nat))
  | .pure a, js, _ => some (a, js, [])
  | .program k, js, L => symL P (k P) js L
  | .mark _ k, js, L => symL P k js L
  | .load _ a k, js, L => match ldC L a js with
    | some (v, b, js') => (symL P (k v) js' L).map fun r => (r.1, r.2.1, (a.block, b) :: r.2.2)
    | none => none
  | _, _, _ => none
theorem symL_run {α : Type} : ∀ (s : Sem α) (js : List Nat) (L : List Blk) (W : World) (v : α) (js' : List Nat) (E : List (Nat × Nat)),
    symL P s js L = some (v, js', E) → Same E → Hold W L F → s.run P W = .ok v W := by
  intro s
  induction s with
  | pure a => intro js L W v js' E h hE hW; cases h; rfl
  | program k ih =>
    intro js L W v js' E h hE hW
    have := ih P js L W v js' E h hE hW
    simpa [Sem.run] using this
  | mark m k ih =>
    intro js L W v js' E h hE hW
    have := ih js L W v js' E h hE hW
    simpa [Sem.run] using this
  | load m a k ih =>
    intro js L W v js' E h hE hW
    simp only [symL] at h
    split at h
    · rename_i u b js1 hl
      obtain ⟨r, hr, e⟩ := Option.map_eq_some_iff.1 h
      obtain ⟨r1, r2, r3⟩ := r
      cases e
      have hc := ldC_spec hl (hE _ List.mem_cons_self) hW
      have := ih u js1 L W r1 r2 r3 hr (fun p hp => hE p (List.mem_cons_of_mem _ hp)) hW
      rw [run_load_cell hc]
      exact this
    · cases h
  | _ => intro js L W v js' E h; simp [symL] at h
/-- What a body answers, out of slots and cells. -/
def resV (P : Program) (l : List Value) (L : List Blk) : List ResultVar → List Nat → Option (List Value × List (Nat × Nat))
  | [], _ => some ([], [])
  | .tmp t :: rs, js => (resV P l L rs js).map fun r => (l.getD t undef :: r.1, r.2)
  | .cell a t :: rs, js => match symL P (do loadVar t (← asAddr (l.getD a undef))) js L with
    | some (v, js', E) => (resV P l L rs js').map fun r => (v :: r.1, E ++ r.2)
    | none => none
def retV : List Value → Value
  | [v] => v
  | vs => .tuple vs.toArray
theorem resV_run {l : List Value} {L : List Blk} {W : World} (hW : Hold W L F) (f : ResultVar → Sem Value) (hf : ∀ u, f (.tmp u) = pure (l.getD u undef)) (hc : ∀ a t, f (.cell a t) = (do loadVar t (← asAddr (l.getD a undef)))) :
    ∀ (rs : List ResultVar) (js : List Nat) (vs : List Value) (E : List (Nat × Nat)), resV P l L rs js = some (vs, E) → Same E → (rs.mapM f).run P W = .ok vs W
  | [], js, vs, E, h, hE => by cases h; simp
  | .tmp t :: rs, js, vs, E, h, hE => by
    obtain ⟨r, hr, e⟩ := Option.map_eq_some_iff.1 h
    obtain ⟨r1, r2⟩ := r
    cases e
    have := resV_run hW f hf hc rs js r1 r2 hr hE
    simp [List.mapM_cons, hf, this]
  | .cell a t :: rs, js, vs, E, h, hE => by
    simp only [resV] at h
    split at h
    · rename_i v js' E1 hs
      obtain ⟨r, hr, e⟩ := Option.map_eq_some_iff.1 h
      obtain ⟨r1, r2⟩ := r
      cases e
      have h1 := symL_run _ js L W v js' E1 hs (fun p hp => hE p (List.mem_append_left _ hp)) hW
      have := resV_run hW f hf hc rs js' r1 r2 hr fun p hp => hE p (List.mem_append_right _ hp)
      rw [List.mapM_cons, hc]
      simp only [Sem.run_bind] at h1 ⊢
      rw [h1]
      simp [this]
    · cases h
theorem retV_run {fn : Func} {l : List Value} {L : List Blk} {W : World} (hW : Hold W L F) {js : List Nat} {vs : List Value} {E : List (Nat × Nat)} (h : resV P l L fn.results.toList js = some (vs, E)) (hE : Same E) : (results fn l.toArray).run P W = .ok (retV vs) W := by
  unfold results
  have e : fn.results = fn.results.toList.toArray := by simp
  rw [e, List.mapM_toArray]
  simp only [Sem.run_bind, Sem.run_map]
  rw [resV_run hW _ (fun u => by simp) (fun a t => by simp) _ js vs E h hE]
  match vs with
  | [] => simp [retV]
  | [v] => simp [retV]
  | _ :: _ :: _ => simp [retV]
def resAt (P : Program) (fn : Func) (js : List Nat) (s : St) : Option (Value × List (Nat × Nat)) :=
  match s.fs with
  | .code .ret :: _ => (resV P s.l s.L fn.results.toList js).map fun r => (retV r.1, r.2)
  | [] => (resV P s.l s.L fn.results.toList js).map fun r => (retV r.1, r.2)
  | _ => none
/-- The end of a body. -/
theorem rt {fn : Func} {R : Ending → World → Prop} {s : St} (v : Value) (js : List (Nat × Nat)) (E : List (Nat × Nat)) (hR : ∀ W, HoldR W F → R (.returned v) W) (h : resAt P fn (rl js) (nm s) = some (v, dup E) := by kernel_rfl) : Go P (bodyPost P fn R) F s := by
  refine norm_sound 400 ?_
  have key : ∀ W, Hold W (nm s).L F → ∀ r : List Value × List (Nat × Nat), resV P (nm s).l (nm s).L fn.results.toList (rl js) = some r → (retV r.1, r.2) = (v, dup E) → (results fn (nm s).l.toArray).run P W = .ok v W := by
    intro W hW r hr e
    obtain ⟨r1, r2⟩ := r
    obtain ⟨rfl, rfl⟩ := Prod.mk.inj e
    exact retV_run hW hr (dup_same E)
  unfold resAt at h
  split at h
  · rename_i fs hfs
    obtain ⟨r, hr, e⟩ := Option.map_eq_some_iff.1 h
    intro W hW
    rw [hfs]
    exact wp_ret (KK_ret ⟨rfl, v, key W hW r hr e, hR W (Hold.ff hW)⟩)
  · rename_i hfs
    obtain ⟨r, hr, e⟩ := Option.map_eq_some_iff.1 h
    intro W hW
    rw [hfs]
    exact ⟨rfl, v, key W hW r hr e, hR W (Hold.ff hW)⟩
  · cases h
/-- What a round of a loop hands on. -/
def Inv {X : Type} (st : X → List Value × List Blk) (F' : X → List Asrt) (ok : X → Prop) (μ : X → Nat) (x : X) : Act → World → Prop := fun a W => ∃ y, ok y ∧ μ y < μ x ∧ a = ⟨(st y).1.toArray, []⟩ ∧ Hold W (st y).2 (F' y)
def isLp : List Fr → Bool
  | .code (.loop _) :: _ => true
  | _ => false
theorem lp {X : Type} {s : St} (st : X → List Value × List Blk) (F' : X → List Asrt) (ok : X → Prop) (μ : X → Nat) (x0 : X) (k : List Fr) (hok : ok x0) (hF : F' x0 = F)
    (round : ∀ x, ok x → Go P Q (F' x) ⟨ktl [] (Inv st F' ok μ x) k, (st x).1, (st x).2⟩) (h : nm s = ⟨k, (st x0).1, (st x0).2⟩ := by kernel_rfl) (hk : isLp k = true := by kernel_rfl) : Go P Q F s := by
  refine norm_sound 400 ?_
  show Go P Q F (nm s)
  rw [h]
  unfold isLp at hk
  split at hk
  · rename_i c fs
    intro W hW
    subst hF
    refine wp_loop_ghost (fun n a W => ∃ x, ok x ∧ μ x = n ∧ a = ⟨(st x).1.toArray, []⟩ ∧ Hold W (st x).2 (F' x)) (μ x0) ⟨x0, hok, rfl, rfl, hW⟩ ?_
    rintro n a W ⟨x, hx, rfl, rfl, hH⟩
    have h1 : c.wp P (KK P Q (.post (Inv st F' ok μ x) :: fs)) ⟨(st x).1.toArray, []⟩ W := by
      have h2 := round x hx W hH
      cases c <;> exact h2
    refine wp_mono h1 fun e a W hq => ?_
    cases e with
    | normal =>
      obtain ⟨y, h3, h4, h5, h6⟩ := hq
      exact ⟨μ y, h4, y, h3, rfl, h5, h6⟩
    | exit id => exact hq
    | goto l => exact hq
    | ret => exact hq
    | panic ch => exact hq
    | outgrown => exact hq
  · cases hk
def postAt (s : St) : Option (Act → World → Prop) :=
  match s.fs with
  | .post I :: _ => some I
  | _ => none
theorem nx {X : Type} {s : St} {st : X → List Value × List Blk} {F' : X → List Asrt} {ok : X → Prop} {μ : X → Nat} {x : X} (y : X) (hok : ok y) (hμ : μ y < μ x) (n m : Nat) (hF : F.drop m = F' y)
    (h : postAt (nm s) = some (Inv st F' ok μ x) := by kernel_rfl) (hl : (nm s).l = (st y).1 := by kernel_rfl) (hL : (nm s).L.drop n = (st y).2 := by kernel_rfl) : Go P Q F s := by
  refine norm_sound 400 ?_
  unfold postAt at h
  split at h
  · rename_i I fs hfs
    cases h
    intro W hW
    rw [hfs]
    refine ⟨y, hok, hμ, by rw [← hl], ?_⟩
    rw [← hL, ← hF]
    refine HoldR.sub hW ?_
    refine List.Sublist.append ?_ (List.drop_sublist _ _)
    exact (List.drop_sublist _ _).map _
  · cases h
end
/-! ### Regions whose order is drawn -/
/-- A state within such a region: what is known (done, or told ahead), what of it may still wait, the new variables that may be made at any time. -/
structure DS where
  ops : Array Oper
  kn : List Nat
  pd : List Nat
  al : List (Nat × TypeId × List Value)
  l : List Value
  L : List Blk
def depsOf (o : Oper) : List Nat := (o.after.toList.filter (Region.binds .any)).map (·.on)
def unl (ls : Array Bool) : Nat := ls.toList.count false
section
variable {P : Program} {K : Exit → Act → World → Prop} {F : List Asrt}
def wpA (P : Program) (K : Exit → Act → World → Prop) (ops : Array Oper) (ls : Array Bool) (a : Act) (W : World) : Prop := ∀ fuel, unl ls ≤ fuel → wpAny P .any ops K fuel ls a W
theorem count_set : ∀ (l : List Bool) (i : Nat), l[i]? = some false → (l.set i true).count false + 1 = l.count false
  | [], i, h => by simp at h
  | b :: l, 0, h => by
    have : b = false := by simpa using h
    subst this
    simp
  | b :: l, i + 1, h => by
    have := count_set l i (by simpa using h)
    cases b <;> simp [List.count_cons] <;> omega
theorem unl_set {ls : Array Bool} {i : Nat} (h : ls.getD i true = false) : unl (ls.setIfInBounds i true) + 1 = unl ls := by
  unfold unl
  rw [Array.toList_setIfInBounds]
  refine count_set ls.toList i ?_
  rcases Nat.lt_or_ge i ls.size with h' | h'
  · have : ls[i] = false := by simpa [h'] using h
    simp [h', this]
  · simp [Array.getElem?_eq_none h'] at h
theorem wpA_step {ops : Array Oper} {ls : Array Bool} {a : Act} {W : World} (h0 : Region.ready .any ops ls = [] → K .normal a W) (h1 : ∀ i ∈ Region.ready .any ops ls, wpOp P ops K i (wpA P K ops (ls.setIfInBounds i true)) a W) : wpA P K ops ls a W := by
  intro fuel hf
  cases fuel with
  | zero =>
    have hr : Region.ready .any ops ls = [] := by
      rw [List.eq_nil_iff_forall_not_mem]
      intro i hi
      have := unl_set (mem_ready.1 hi).1
      omega
    exact ⟨hr, h0 hr⟩
  | succ fuel =>
    refine ⟨h0, fun i hi => wpOp_mono (fun a' W' h => h fuel ?_) (h1 i hi)⟩
    have := unl_set (mem_ready.1 hi).1
    omega
/-- What the slots hold, as far as the operations have come. -/
structure Agree (ops : Array Oper) (al : List Nat) (ls : Array Bool) (l : List Value) (a : Act) : Prop where
  size : a.tmps.size = l.length
  defers : a.defers = []
  val : ∀ t : Tmp, ((∃ (i : Nat) (o : Oper), ops[i]? = some o ∧ ls.getD i false = true ∧ i ∉ al ∧ o.dst = some t) ∨ (∀ (i : Nat) (o : Oper), ops[i]? = some o → o.dst ≠ some t)) → a.tmps[t]? = l[t]?
/-- The new variables that have been made. -/
inductive AlOf (ops : Array Oper) (ls : Array Bool) (a : Act) : List (Nat × TypeId × List Value) → List Blk → Prop
  | nil : AlOf ops ls a [] []
  | yes {i T cs r A o d g} (hl : ls.getD i false = true) (ho : ops[i]? = some o) (hd : o.dst = some d) (hv : a.tmps[d]? = some (.pointer (some ⟨g, 0, none⟩))) (h : AlOf ops ls a r A) : AlOf ops ls a ((i, T, cs) :: r) ((g, T, cs) :: A)
  | no {i T cs r A} (hl : ls.getD i false = false) (h : AlOf ops ls a r A) : AlOf ops ls a ((i, T, cs) :: r) A
structure Pre (s : DS) (F : List Asrt) (ls : Array Bool) (a : Act) (W : World) (A : List Blk) : Prop where
  size : ls.size = s.ops.size
  sub : ∀ i, ls.getD i false = true → i ∈ s.kn
  sure : ∀ i ∈ s.kn, i ∉ s.pd → i ∉ s.al.map (·.1) → ls.getD i false = true
  agree : Agree s.ops (s.al.map (·.1)) ls s.l a
  als : AlOf s.ops ls a s.al A
  hold : Hold W (A ++ s.L) F
  shut : ∀ (i : Nat) (o : Oper), s.ops[i]? = some o → ls.getD i false = true → ∀ e ∈ depsOf o, ls.getD e false = true
def GA (P : Program) (K : Exit → Act → World → Prop) (s : DS) (F : List Asrt) : Prop := ∀ ls a W A, Pre s F ls a W A → wpA P K s.ops ls a W
/-- What an operation leaves, whenever it comes up. -/
def Cert (P : Program) (F : List Asrt) (ops : Array Oper) (l : List Value) (L : List Blk) (o : Oper) (v : Value) : Prop :=
  (wantd ops l o = true ∧ ∀ W, Hold W L F → (execOp (evl l) o).run P W = .ok (.value v) W) ∨ (wantd ops l o = false ∧ v = undef)
def PD (P : Program) (F : List Asrt) (s : DS) : Prop := ∀ b ∈ s.pd, ∃ o v d, s.ops[b]? = some o ∧ o.dst = some d ∧ s.l[d]? = some v ∧ Cert P F s.ops s.l s.L o v ∧ (∀ j ∈ depsOf o, j ∉ s.al.map (·.1))
/-- An order in which each number's links lead back. -/
def topoB (ops : Array Oper) : List Nat → List Nat → Bool
  | [], seen => (List.range ops.size).all fun i => seen.contains i
  | x :: r, seen => (match ops[x]? with | none => false | some o => (depsOf o).all fun j => seen.contains j) && topoB ops r (x :: seen)
theorem topoB_spec {ops : Array Oper} {p : Nat → Prop} (H : ∀ (i : Nat) (o : Oper), ops[i]? = some o → (∀ j ∈ depsOf o, p j) → p i) : ∀ (ord seen : List Nat), topoB ops ord seen = true → (∀ j ∈ seen, p j) → ∀ i, i < ops.size → p i
  | [], seen, h, hs, i, hi => hs i (by simpa using List.all_eq_true.1 h i (List.mem_range.2 hi))
  | x :: r, seen, h, hs, i, hi => by
    simp only [topoB, Bool.and_eq_true] at h
    refine topoB_spec H r (x :: seen) h.2 (fun j hj => ?_) i hi
    rcases List.mem_cons.1 hj with rfl | hj
    · have h1 := h.1
      split at h1
      · cases h1
      · rename_i o ho
        exact H j o ho fun k hk => hs k (by simpa using List.all_eq_true.1 h1 k hk)
    · exact hs j hj
/-- The rule of a region: every slot that an operation looks at, and that another one of the region writes, is written by one for which it waits; no slot is written twice; the links lead back in some order. -/
def dOK (ops : Array Oper) (ord : List Nat) : Bool := topoB ops (match ord with | [] => List.range ops.size | x :: r => x :: r) [] && (List.range ops.size).all fun i => match ops[i]? with
  | none => true
  | some o => (List.range ops.size).all fun j => match ops[j]? with
    | none => true
    | some o' => match o'.dst with
      | none => true
      | some d => (!(o.looksAt ops).contains d || (depsOf o).contains j) && (Nat.beq i j || o.dst != some d)
structure DOK (ops : Array Oper) : Prop where
  early : ∀ (p : Nat → Prop), (∀ (i : Nat) (o : Oper), ops[i]? = some o → (∀ j ∈ depsOf o, p j) → p i) → ∀ i, i < ops.size → p i
  clo : ∀ (i j : Nat) (o o' : Oper) (d : Tmp), ops[i]? = some o → ops[j]? = some o' → o'.dst = some d → d ∈ o.looksAt ops → j ∈ depsOf o
  uniq : ∀ (i j : Nat) (o o' : Oper) (d : Tmp), ops[i]? = some o → ops[j]? = some o' → o.dst = some d → o'.dst = some d → i = j
theorem dOK_spec {ops : Array Oper} {ord : List Nat} (h : dOK ops ord = true) : DOK ops := by
  simp only [dOK, Bool.and_eq_true] at h
  have key : ∀ (i j : Nat) (o o' : Oper) (d : Tmp), ops[i]? = some o → ops[j]? = some o' → o'.dst = some d → (d ∈ o.looksAt ops → j ∈ depsOf o) ∧ (o.dst = some d → i = j) := by
    intro i j o o' d hi hj hd
    have hil := (Array.getElem?_eq_some_iff.1 hi).1
    have hjl := (Array.getElem?_eq_some_iff.1 hj).1
    have h1 := List.all_eq_true.1 h.2 i (List.mem_range.2 hil)
    rw [hi] at h1
    have h2 := List.all_eq_true.1 h1 j (List.mem_range.2 hjl)
    rw [hj] at h2
    simp only [hd, Bool.and_eq_true, Bool.or_eq_true, Bool.not_eq_true'] at h2
    refine ⟨fun hm => ?_, fun e => ?_⟩
    · rcases h2.1 with h3 | h3
      · have : (o.looksAt ops).contains d = true := by simpa using hm
        rw [this] at h3
        cases h3
      · simpa using h3
    · rcases h2.2 with h3 | h3
      · exact Nat.eq_of_beq_eq_true h3
      · rw [e] at h3
        simp at h3
  exact ⟨fun p H => topoB_spec H _ [] h.1 (fun j hj => by cases hj), fun i j o o' d hi hj hd => (key i j o o' d hi hj hd).1, fun i j o o' d hi hj hd hd' => (key i j o o' d hi hj hd').2 hd⟩
theorem ready_deps {ops : Array Oper} {ls : Array Bool} {i : Nat} {o : Oper} (h : i ∈ Region.ready .any ops ls) (ho : ops[i]? = some o) : ∀ j ∈ depsOf o, ls.getD j false = true := by
  obtain ⟨_, o', ho', hall⟩ := mem_ready.1 h
  rw [ho] at ho'
  cases ho'
  intro j hj
  obtain ⟨e, he, rfl⟩ := List.mem_map.1 hj
  have := List.mem_filter.1 he
  exact hall e (by simpa using this.1) this.2
/-- If nothing may come up, all have. -/
theorem ready_nil {ops : Array Oper} {ls : Array Bool} (hd : DOK ops) (hs : ls.size = ops.size) (h : Region.ready .any ops ls = []) : ∀ i, i < ops.size → ls.getD i false = true := by
  intro i hi
  refine (hd.early (fun i => i < ops.size ∧ ls.getD i false = true) (fun i o ho ih => ?_) i hi).2
  have hi := (Array.getElem?_eq_some_iff.1 ho).1
  refine ⟨hi, ?_⟩
  cases hg : ls.getD i false with
  | true => rfl
  | false =>
    exfalso
    have hm : i ∈ Region.ready .any ops ls := mem_ready.2 ⟨by
      have : i < ls.size := by omega
      simp [this] at hg ⊢
      exact hg, o, ho, fun e he hb => (ih e.on (List.mem_map.2 ⟨e, List.mem_filter.2 ⟨by simpa using he, hb⟩, rfl⟩)).2⟩
    rw [h] at hm
    cases hm
theorem agree_looks {ops : Array Oper} {al : List Nat} {ls : Array Bool} {l : List Value} {a : Act} (hd : DOK ops) (h : Agree ops al ls l a) {i : Nat} {o : Oper} (ho : ops[i]? = some o) (hna : ∀ j ∈ depsOf o, j ∉ al) (hr : i ∈ Region.ready .any ops ls) : ∀ t ∈ o.looksAt ops, a.tmps[t]? = l[t]? := by
  intro t ht
  refine h.val t ?_
  by_cases hex : ∃ (j : Nat) (o' : Oper), ops[j]? = some o' ∧ o'.dst = some t
  · obtain ⟨j, o', hj, hdst⟩ := hex
    exact .inl ⟨j, o', hj, ready_deps hr ho j (hd.clo i j o o' t ho hj hdst ht), hna j (hd.clo i j o o' t ho hj hdst ht), hdst⟩
  · exact .inr fun j o' hj hdst => hex ⟨j, o', hj, hdst⟩
theorem eval_looks {ops : Array Oper} {l : List Value} {a : Act} {o : Oper} (hs : ∀ cs b, o.op ≠ .select cs b) (h : ∀ t ∈ o.looksAt ops, a.tmps[t]? = l[t]?) : execOp a.eval o = execOp (evl l) o :=
  execOp_congr o hs fun x hx => by
    cases x with
    | tmp t =>
      have := h t (List.mem_append_left _ (List.mem_filterMap.2 ⟨.tmp t, by simpa using hx, rfl⟩))
      simp [Act.eval, evl, this]
    | const v => rfl
    | global g => rfl
    | func f => rfl
theorem wanted_looks {ops : Array Oper} {l : List Value} {a : Act} {o : Oper} (h : ∀ t ∈ o.looksAt ops, a.tmps[t]? = l[t]?) : Region.wanted o (yielded ops a.tmps) = wantd ops l o := by
  unfold Region.wanted wantd
  cases hg : o.guard with
  | none => rfl
  | some gw =>
    obtain ⟨g, w⟩ := gw
    have : yielded ops a.tmps g = yl ops l g := by
      unfold yielded yl
      cases ht : (ops[g]?).bind (·.dst) with
      | none => rfl
      | some t =>
        have := h t (by simp [Oper.looksAt, hg, ht])
        simp only [Option.bind_some, this]
        rfl
    simp only [this]
theorem shut_next {ops : Array Oper} {ls : Array Bool} {i : Nat} (hr : i ∈ Region.ready .any ops ls) (h : ∀ (i : Nat) (o : Oper), ops[i]? = some o → ls.getD i false = true → ∀ e ∈ depsOf o, ls.getD e false = true) :
    ∀ (k : Nat) (o : Oper), ops[k]? = some o → (ls.setIfInBounds i true).getD k false = true → ∀ e ∈ depsOf o, (ls.setIfInBounds i true).getD e false = true := by
  intro k o hk hl e he
  refine getD_set_true ?_
  by_cases hik : i = k
  · subst hik
    exact ready_deps hr hk e he
  · rw [getD_set_ne false hik] at hl
    exact h k o hk hl e he
theorem gtf {l : Array Bool} {i : Nat} (h : l.getD i true = false) : l.getD i false = false := by
  rcases Nat.lt_or_ge i l.size with h' | h'
  · simpa [h'] using h
  · simp [Array.getElem?_eq_none h'] at h
theorem step_cert {s : DS} {ls : Array Bool} {a : Act} {W : World} {A : List Blk} (hd : DOK s.ops) (hsel : Region.noSelect s.ops = true) (hp : Pre s F ls a W A) {i : Nat} {o : Oper} {v : Value} {d : Tmp} (ho : s.ops[i]? = some o) (hdst : o.dst = some d) (hl : s.l[d]? = some v) (hc : Cert P F s.ops s.l s.L o v) (hr : i ∈ Region.ready .any s.ops ls) (hk : i ∈ s.kn) (hna : i ∉ s.al.map (·.1)) (hda : ∀ j ∈ depsOf o, j ∉ s.al.map (·.1))
    (hn : ∀ a', Pre s F (ls.setIfInBounds i true) a' W A → wpA P K s.ops (ls.setIfInBounds i true) a' W) : wpOp P s.ops K i (wpA P K s.ops (ls.setIfInBounds i true)) a W := by
  have hlk := agree_looks hd hp.agree ho hda hr
  have hev := eval_looks (fun cs b => Region.noSelect_spec hsel i o cs b ho) hlk
  have hwt := wanted_looks hlk
  have hHL : Hold W s.L F := by
    have := hp.hold
    rw [Hold, List.map_append, List.append_assoc] at this
    exact this.sub (List.sublist_append_right _ _)
  have hy : YieldsIf P s.ops (fun W' => W' = W) o v a := by
    rcases hc with ⟨h1, h2⟩ | ⟨h1, rfl⟩
    · exact .inl ⟨hwt.trans h1, fun w hw => by subst hw; rw [hev]; exact h2 _ hHL⟩
    · exact .inr ⟨hwt.trans h1, rfl⟩
  refine hy.wpOp ho rfl (hn _ ?_)
  have hil : i < s.ops.size := (Array.getElem?_eq_some_iff.1 ho).1
  have hself : (ls.setIfInBounds i true).getD i false = true := by simp [hp.size, hil]
  refine ⟨by simpa using hp.size, fun j hj => ?_, fun j hj h1 h2 => getD_set_true (hp.sure j hj h1 h2), ?_, ?_, hp.hold, shut_next hr hp.shut⟩
  · by_cases hij : i = j
    · subst hij; exact hk
    · rw [getD_set_ne false hij] at hj
      exact hp.sub j hj
  · refine ⟨by rw [hdst]; simpa [Act.put] using hp.agree.size, by rw [hdst]; exact hp.agree.defers, fun t ht => ?_⟩
    rw [hdst]
    simp only [Act.put]
    by_cases hdt : d = t
    · subst hdt
      have : d < a.tmps.size := by rw [hp.agree.size]; exact (List.getElem?_eq_some_iff.1 hl).1
      rw [hl]
      simp [this]
    · rw [Array.getElem?_setIfInBounds_ne hdt]
      refine hp.agree.val t ?_
      rcases ht with ⟨j, o', hj, hlj, hja, hdj⟩ | h
      · refine .inl ⟨j, o', hj, ?_, hja, hdj⟩
        by_cases hij : i = j
        · subst hij
          rw [ho] at hj
          cases hj
          rw [hdst] at hdj
          exact absurd (Option.some.inj hdj) hdt
        · rw [getD_set_ne false hij] at hlj
          exact hlj
      · exact .inr h
  · have key : ∀ al A, AlOf s.ops ls a al A → (∀ x ∈ al, x.1 ≠ i) → AlOf s.ops (ls.setIfInBounds i true) (a.put o.dst v) al A := by
      intro al A h
      induction h with
      | nil => intro _; exact .nil
      | yes hl' ho' hd' hv' h' ih =>
        rename_i i' T cs r A' o' d' g
        intro hne
        refine .yes (getD_set_true hl') ho' hd' ?_ (ih fun x hx => hne x (List.mem_cons_of_mem _ hx))
        rw [hdst]
        simp only [Act.put]
        rw [Array.getElem?_setIfInBounds_ne]
        · exact hv'
        · rintro rfl
          exact hne _ List.mem_cons_self (hd.uniq _ _ _ _ _ ho' ho hd' hdst)
      | no hl' h' ih =>
        intro hne
        refine .no ?_ (ih fun x hx => hne x (List.mem_cons_of_mem _ hx))
        rw [getD_set_ne false (fun e => hne _ List.mem_cons_self e.symm)]
        exact hl'
    exact key _ _ hp.als fun x hx e => hna (List.mem_map.2 ⟨x, hx, e⟩)
/-- A new variable, of an operation that asks nothing. -/
structure AlC (P : Program) (ops : Array Oper) (x : Nat × TypeId × List Value) (o : Oper) (d : Tmp) : Prop where
  at_ : ops[x.1]? = some o
  dst : o.dst = some d
  guard : o.guard = none
  op : ∃ t, o.op = .alloc t
  run : ∀ (g : Nat) (L : List Blk), sym P g (execOp (evl []) o) true [] L = some (.value (.pointer (some ⟨g, 0, none⟩)), (g, x.2.1, x.2.2) :: L, [], [])
def ALs (P : Program) (s : DS) : Prop := ∀ x ∈ s.al, ∃ o d, AlC P s.ops x o d ∧ d < s.l.length
theorem step_al {s : DS} {ls : Array Bool} {a : Act} {W : World} {A : List Blk} (hd : DOK s.ops) (hu : (s.al.map (·.1)).Nodup) (hp : Pre s F ls a W A) {x : Nat × TypeId × List Value} (hx : x ∈ s.al) {o : Oper} {d : Tmp} (hc : AlC P s.ops x o d) (hdl : d < s.l.length) (hr : x.1 ∈ Region.ready .any s.ops ls) (hk : x.1 ∈ s.kn)
    (hn : ∀ a' W' A', Pre s F (ls.setIfInBounds x.1 true) a' W' A' → wpA P K s.ops (ls.setIfInBounds x.1 true) a' W') : wpOp P s.ops K x.1 (wpA P K s.ops (ls.setIfInBounds x.1 true)) a W := by
  have ho := hc.at_
  have hdst := hc.dst
  obtain ⟨t, hop⟩ := hc.op
  have hil : x.1 < s.ops.size := (Array.getElem?_eq_some_iff.1 ho).1
  have hself : (ls.setIfInBounds x.1 true).getD x.1 false = true := by simp [hp.size, hil]
  have hun : ls.getD x.1 false = false := gtf (mem_ready.1 hr).1
  refine wpOp_step ho fun K' hK => ?_
  rw [if_pos (by simp [Region.wanted, hc.guard])]
  unfold Oper.wp
  have he : execOp a.eval o = execOp (evl []) o := by
    unfold execOp
    rw [hop]
  obtain ⟨W', h1, h2⟩ := sym_run (F := F) W.heap.size _ true [] (A ++ s.L) W _ _ _ _ (hc.run W.heap.size (A ++ s.L)) (fun p hp => by cases hp) (fun _ => rfl) hp.hold
  rw [he, h1, Oper.upon_value]
  refine hK _ _ ?_
  have hput : (a.put o.dst (.pointer (some ⟨W.heap.size, 0, none⟩))).tmps[d]? = some (.pointer (some ⟨W.heap.size, 0, none⟩)) := by
    rw [hdst]
    have : d < a.tmps.size := by rw [hp.agree.size]; exact hdl
    simp [Act.put, this]
  -- the blocks, this one in its place
  have key : ∀ al A0, AlOf s.ops ls a al A0 → (al.map (·.1)).Nodup → x ∈ al → ∃ A1, AlOf s.ops (ls.setIfInBounds x.1 true) (a.put o.dst (.pointer (some ⟨W.heap.size, 0, none⟩))) al A1 ∧ List.Perm ((W.heap.size, x.2.1, x.2.2) :: A0) A1 := by
    have far : ∀ al A0, AlOf s.ops ls a al A0 → (∀ y ∈ al, y.1 ≠ x.1) → AlOf s.ops (ls.setIfInBounds x.1 true) (a.put o.dst (.pointer (some ⟨W.heap.size, 0, none⟩))) al A0 := by
      intro al A h
      induction h with
      | nil => intro _; exact .nil
      | yes hl' ho' hd' hv' h' ih =>
        intro hne
        refine .yes (getD_set_true hl') ho' hd' ?_ (ih fun x hx => hne x (List.mem_cons_of_mem _ hx))
        rw [hdst]
        simp only [Act.put]
        rw [Array.getElem?_setIfInBounds_ne]
        · exact hv'
        · rintro rfl
          exact hne _ List.mem_cons_self (hd.uniq _ _ _ _ _ ho' ho hd' hdst)
      | no hl' h' ih =>
        intro hne
        refine .no ?_ (ih fun x hx => hne x (List.mem_cons_of_mem _ hx))
        rw [getD_set_ne false (fun e => hne _ List.mem_cons_self e.symm)]
        exact hl'
    intro al A0 h
    induction h with
    | nil => intro _ hx; cases hx
    | yes hl' ho' hd' hv' h' ih =>
      rename_i i' T cs r A' o' d' g
      intro hnd hx
      have hnd' := List.nodup_cons.1 hnd
      have hne : i' ≠ x.1 := fun e => by rw [← e, hl'] at hun; cases hun
      rcases List.mem_cons.1 hx with e | hx
      · exact absurd (by rw [e]) hne
      · obtain ⟨A1, h3, h4⟩ := ih hnd'.2 hx
        refine ⟨(g, T, cs) :: A1, .yes (getD_set_true hl') ho' hd' ?_ h3, (List.Perm.swap _ _ _).trans (h4.cons _)⟩
        rw [hdst]
        simp only [Act.put]
        rw [Array.getElem?_setIfInBounds_ne]
        · exact hv'
        · rintro rfl
          exact hne (hd.uniq _ _ _ _ _ ho' ho hd' hdst)
    | no hl' h' ih =>
      rename_i i' T cs r A'
      intro hnd hx
      have hnd' := List.nodup_cons.1 hnd
      rcases List.mem_cons.1 hx with e | hx
      · subst e
        refine ⟨(W.heap.size, T, cs) :: A', .yes hself ho hdst hput (far _ _ h' fun y hy e => hnd'.1 (List.mem_map.2 ⟨y, hy, e⟩)), List.Perm.refl _⟩
      · obtain ⟨A1, h3, h4⟩ := ih hnd'.2 hx
        refine ⟨A1, .no ?_ h3, h4⟩
        rw [getD_set_ne false (fun e => ?_)]
        · exact hl'
        · exact hnd'.1 (List.mem_map.2 ⟨x, hx, e⟩)
  obtain ⟨A1, hA1, hperm⟩ := key _ _ hp.als hu hx
  refine hn _ W' A1 ⟨by simpa using hp.size, fun j hj => ?_, fun j hj h1 h2 => getD_set_true (hp.sure j hj h1 h2), ?_, hA1, ?_, shut_next hr hp.shut⟩
  · by_cases hij : x.1 = j
    · subst hij; exact hk
    · rw [getD_set_ne false hij] at hj
      exact hp.sub j hj
  · refine ⟨by rw [hdst]; simpa [Act.put] using hp.agree.size, by rw [hdst]; exact hp.agree.defers, fun t ht => ?_⟩
    rw [hdst]
    simp only [Act.put]
    have hdt : d ≠ t := by
      rintro rfl
      rcases ht with ⟨j, o', hj, hlj, hja, hdj⟩ | h
      · exact hja (hd.uniq _ _ _ _ _ hj ho hdj hdst ▸ List.mem_map.2 ⟨x, hx, rfl⟩)
      · exact h _ _ ho hdst
    rw [Array.getElem?_setIfInBounds_ne hdt]
    refine hp.agree.val t ?_
    rcases ht with ⟨j, o', hj, hlj, hja, hdj⟩ | h
    · refine .inl ⟨j, o', hj, ?_, hja, hdj⟩
      rw [getD_set_ne false (fun e => ?_)] at hlj
      · exact hlj
      · exact hja (e ▸ List.mem_map.2 ⟨x, hx, rfl⟩)
    · exact .inr h
  · refine h2.perm ?_
    rw [← List.cons_append, List.map_append, List.map_append]
    exact ((hperm.map blkA).append_right _).append_right _
/-- What the rules lean on. -/
structure DW (P : Program) (F : List Asrt) (s : DS) : Prop where
  ok : DOK s.ops
  sel : Region.noSelect s.ops = true
  nodup : (s.al.map (·.1)).Nodup
  alk : ∀ x ∈ s.al, x.1 ∈ s.kn
  als : ALs P s
  pd : PD P F s
  pdk : ∀ b ∈ s.pd, b ∈ s.kn ∧ b ∉ s.al.map (·.1)
/-- Those that wait come up by and by; the others are to be told. -/
theorem ga_ind {s : DS} (hw : DW P F s) (H : ∀ ls a W A, Pre s F ls a W A → wpA P K s.ops ls a W ∨ ((Region.ready .any s.ops ls = [] → K .normal a W) ∧ ∀ j ∈ Region.ready .any s.ops ls, j ∉ s.kn → wpOp P s.ops K j (wpA P K s.ops (ls.setIfInBounds j true)) a W)) : GA P K s F := by
  have key : ∀ n ls a W A, unl ls = n → Pre s F ls a W A → wpA P K s.ops ls a W := by
    intro n
    induction n using Nat.strongRecOn with
    | _ n ih =>
      intro ls a W A hn hp
      rcases H ls a W A hp with h | ⟨h0, h1⟩
      · exact h
      · refine wpA_step h0 fun i hi => ?_
        have hlt := unl_set (mem_ready.1 hi).1
        by_cases hk : i ∈ s.kn
        · by_cases hal : i ∈ s.al.map (·.1)
          · obtain ⟨x, hx, rfl⟩ := List.mem_map.1 hal
            obtain ⟨o, d, hc, hdl⟩ := hw.als x hx
            exact step_al hw.ok hw.nodup hp hx hc hdl hi hk fun a' W' A' hp' => ih _ (by omega) _ a' W' A' rfl hp'
          · have hpd : i ∈ s.pd := by
              apply Classical.byContradiction
              intro hno
              have := hp.sure i hk hno hal
              have := gtf (mem_ready.1 hi).1
              simp_all
            obtain ⟨o, v, d, ho, hdst, hl, hc, hda⟩ := hw.pd i hpd
            exact step_cert hw.ok hw.sel hp ho hdst hl hc hi hk hal hda fun a' hp' => ih _ (by omega) _ a' W A rfl hp'
        · exact h1 i hi hk
  exact fun ls a W A hp => key _ ls a W A rfl hp
/-- All have come up. -/
theorem ga_done {s : DS} (hw : DW P F s) (hall : ∀ i, i < s.ops.size → i ∈ s.kn) (hal : s.al = []) (h : ∀ W, Hold W s.L F → K .normal ⟨s.l.toArray, []⟩ W) : GA P K s F := by
  refine ga_ind hw fun ls a W A hp => .inr ⟨fun hr => ?_, fun j hj hk => absurd (hall j ?_) hk⟩
  · have hl := ready_nil hw.ok hp.size hr
    have ha : a = ⟨s.l.toArray, []⟩ := by
      obtain ⟨tm, df⟩ := a
      have h1 := hp.agree.defers
      have h2 := hp.agree.size
      simp only at h1 h2
      subst h1
      congr 1
      apply Array.ext_getElem?
      intro t
      have hv : ∀ h, tm[t]? = s.l[t]? := hp.agree.val t
      rw [show s.l.toArray[t]? = s.l[t]? by simp]
      refine hv ?_
      by_cases hex : ∃ (j : Nat) (o' : Oper), s.ops[j]? = some o' ∧ o'.dst = some t
      · obtain ⟨j, o', hj, hdst⟩ := hex
        exact .inl ⟨j, o', hj, hl j (Array.getElem?_eq_some_iff.1 hj).1, by rw [hal]; simp, hdst⟩
      · exact .inr fun j o' hj hdst => hex ⟨j, o', hj, hdst⟩
    have hA : A = [] := by
      have := hp.als
      rw [hal] at this
      cases this
      rfl
    subst ha hA
    exact h W hp.hold
  · obtain ⟨_, o, ho, _⟩ := mem_ready.1 hj
    exact (Array.getElem?_eq_some_iff.1 ho).1
/-- Whatever else is not known waits for number j, or for something else that is not known. -/
def clB (s : DS) (j : Nat) : Bool := (List.range s.ops.size).all fun i => Nat.beq i j || s.kn.contains i || match s.ops[i]? with
  | none => true
  | some o => (depsOf o).any fun e => !s.kn.contains e
theorem clB_spec {s : DS} {j : Nat} (h : clB s j = true) {F : List Asrt} {ls : Array Bool} {a : Act} {W : World} {A : List Blk} (hp : Pre s F ls a W A) {i : Nat} (hi : i ∈ Region.ready .any s.ops ls) (hk : i ∉ s.kn) : i = j := by
  obtain ⟨_, o, ho, hall⟩ := mem_ready.1 hi
  have hil := (Array.getElem?_eq_some_iff.1 ho).1
  have h1 := List.all_eq_true.1 h i (List.mem_range.2 hil)
  rw [ho] at h1
  simp only [Bool.or_eq_true] at h1
  rcases h1 with (h1 | h1) | h1
  · exact Nat.eq_of_beq_eq_true h1
  · exact absurd (by simpa using h1) hk
  · obtain ⟨e, he, h2⟩ := List.any_eq_true.1 h1
    have := hp.sub e (ready_deps hi ho e he)
    simp [this] at h2
/-- How number j is carried out. -/
theorem ga_op {s : DS} (hw : DW P F s) {j : Nat} {o : Oper} (ho : s.ops[j]? = some o) (hjk : j ∉ s.kn) (hcl : clB s j = true) (hda : ∀ e ∈ depsOf o, e ∉ s.al.map (·.1))
    (h : ∀ ls a W A, Pre s F ls a W A → j ∈ Region.ready .any s.ops ls → (∀ i ∈ depsOf o, ls.getD i false = true) → execOp a.eval o = execOp (evl s.l) o → Region.wanted o (yielded s.ops a.tmps) = wantd s.ops s.l o → wpOp P s.ops K j (wpA P K s.ops (ls.setIfInBounds j true)) a W) : GA P K s F := by
  have hjl : j < s.ops.size := (Array.getElem?_eq_some_iff.1 ho).1
  refine ga_ind hw fun ls a W A hp => .inr ⟨fun hr => ?_, fun i hi hk => ?_⟩
  · exact absurd (hp.sub j (ready_nil hw.ok hp.size hr j hjl)) hjk
  · have e := clB_spec hcl hp hi hk
    subst e
    have hlk := agree_looks hw.ok hp.agree ho hda hi
    exact h ls a W A hp hi (ready_deps hi ho) (eval_looks (fun cs b => Region.noSelect_spec hw.sel i o cs b ho) hlk) (wanted_looks hlk)
/-- Behind number j: it is known, and done. -/
theorem pre_next {s : DS} {ls : Array Bool} {a : Act} {W W' : World} {A : List Blk} (hw : DW P F s) (hp : Pre s F ls a W A) {j : Nat} {o : Oper} (ho : s.ops[j]? = some o) (hjk : j ∉ s.kn) (hjr : j ∈ Region.ready .any s.ops ls) (v : Value) {F' : List Asrt} {L' : List Blk} {pd' : List Nat} (hpd : ∀ b ∈ s.pd, b ∉ pd' → ls.getD b false = true) (hH : Hold W' (A ++ L') F') :
    Pre ⟨s.ops, j :: s.kn, pd', s.al, setd s.l o.dst v, L'⟩ F' (ls.setIfInBounds j true) (a.put o.dst v) W' A := by
  have hjl : j < s.ops.size := (Array.getElem?_eq_some_iff.1 ho).1
  have hself : (ls.setIfInBounds j true).getD j false = true := by simp [hp.size, hjl]
  have hjal : j ∉ s.al.map (·.1) := fun h => by
    obtain ⟨x, hx, e⟩ := List.mem_map.1 h
    exact hjk (e ▸ hw.alk x hx)
  have hlen : (setd s.l o.dst v).length = s.l.length := by
    unfold setd
    split <;> simp
  refine ⟨by simpa using hp.size, fun i hi => ?_, fun i hi h1 h2 => ?_, ⟨?_, ?_, fun t ht => ?_⟩, ?_, hH, shut_next hjr hp.shut⟩
  · by_cases hij : j = i
    · subst hij; exact List.mem_cons_self
    · rw [getD_set_ne false hij] at hi
      exact List.mem_cons_of_mem _ (hp.sub i hi)
  · rcases List.mem_cons.1 hi with rfl | hi
    · exact hself
    · refine getD_set_true ?_
      by_cases hb : i ∈ s.pd
      · exact hpd i hb h1
      · exact hp.sure i hi hb h2
  · show _ = (setd s.l o.dst v).length
    rw [hlen]
    cases o.dst <;> simpa [Act.put] using hp.agree.size
  · cases o.dst <;> exact hp.agree.defers
  · show _ = (setd s.l o.dst v)[t]?
    have hbase : (∀ d, o.dst = some d → d ≠ t) → a.tmps[t]? = s.l[t]? := fun hne => by
      refine hp.agree.val t ?_
      rcases ht with ⟨i, o', hi, hli, hia, hdi⟩ | h
      · refine .inl ⟨i, o', hi, ?_, hia, hdi⟩
        by_cases hij : j = i
        · subst hij
          have ho' : s.ops[j]? = some o' := hi
          rw [ho] at ho'
          cases ho'
          exact absurd rfl (hne t hdi)
        · rw [getD_set_ne false hij] at hli
          exact hli
      · exact .inr h
    cases hd : o.dst with
    | none =>
      simp only [Act.put, setd]
      exact hbase fun d h => by rw [hd] at h; cases h
    | some d =>
      simp only [Act.put, setd]
      by_cases hdt : d = t
      · subst hdt
        by_cases hlt : d < s.l.length
        · have : d < a.tmps.size := by rw [hp.agree.size]; exact hlt
          simp [this, hlt]
        · have : ¬ d < a.tmps.size := by rw [hp.agree.size]; exact hlt
          simp [hlt, this]
      · rw [Array.getElem?_setIfInBounds_ne hdt, List.getElem?_set_ne hdt]
        exact hbase fun d' h e => hdt (by rw [hd] at h; cases h; exact e)
  · have key : ∀ al A, AlOf s.ops ls a al A → (∀ x ∈ al, x.1 ≠ j) → AlOf s.ops (ls.setIfInBounds j true) (a.put o.dst v) al A := by
      intro al A h
      induction h with
      | nil => intro _; exact .nil
      | yes hl' ho' hd' hv' h' ih =>
        rename_i i' T cs r A' o' d' g
        intro hne
        refine .yes (getD_set_true hl') ho' hd' ?_ (ih fun x hx => hne x (List.mem_cons_of_mem _ hx))
        cases hd : o.dst with
        | none => exact hv'
        | some d =>
          simp only [Act.put]
          rw [Array.getElem?_setIfInBounds_ne]
          · exact hv'
          · rintro rfl
            exact hne _ List.mem_cons_self (hw.ok.uniq _ _ _ _ _ ho' ho hd' hd)
      | no hl' h' ih =>
        intro hne
        refine .no ?_ (ih fun x hx => hne x (List.mem_cons_of_mem _ hx))
        rw [getD_set_ne false (fun e => hne _ List.mem_cons_self e.symm)]
        exact hl'
    exact key _ _ hp.als fun x hx e => hjal (List.mem_map.2 ⟨x, hx, e⟩)
/-- Numbers that must be the blocks' own are; what is told ahead is. -/
structure FR where
  s : DS
  E : List (Nat × Nat)
  B : List Prop
/-- Operations that are told ahead. -/
def dfill (P : Program) : List Nat → List Nat → List (Nat × Value) → DS → Option FR
  | [], _, _, s => some ⟨s, [], []⟩
  | b :: r, js, rp, s => match s.ops[b]? with
    | none => none
    | some o => match o.dst with
      | none => none
      | some d => match !s.kn.contains b && Nat.blt d s.l.length && !(o.looksAt s.ops).contains d && (depsOf o).all (fun e => !(s.al.map (·.1)).contains e) && s.pd.all (fun c => match s.ops[c]? with | none => false | some oc => !(oc.looksAt s.ops).contains d) with
        | false => none
        | true => match wantd s.ops s.l o with
          | false => dfill P r js rp ⟨s.ops, b :: s.kn, b :: s.pd, s.al, s.l.set d undef, s.L⟩
          | true => match idxStep P s.l o.op with
            | some (v, p) => (dfill P r js rp ⟨s.ops, b :: s.kn, b :: s.pd, s.al, s.l.set d v, s.L⟩).map fun q => ⟨q.s, q.E, p :: q.B⟩
            | none => match symL P (execOp (evl s.l) o) js s.L with
              | some (.value v, js', E) => match rv1 b rp with
                | none => (dfill P r js' rp ⟨s.ops, b :: s.kn, b :: s.pd, s.al, s.l.set d v, s.L⟩).map fun q => ⟨q.s, E ++ q.E, q.B⟩
                | some u => (dfill P r js' (rv2 b rp) ⟨s.ops, b :: s.kn, b :: s.pd, s.al, s.l.set d u, s.L⟩).map fun q => ⟨q.s, E ++ q.E, (v = u) :: q.B⟩
              | _ => none
def DG (P : Program) (K : Exit → Act → World → Prop) (F : List Asrt) (s : DS) : Prop := DW P F s → GA P K s F
theorem cert_set {ops : Array Oper} {l : List Value} {L : List Blk} {o : Oper} {v u : Value} {d : Tmp} (hs : ∀ cs b, o.op ≠ .select cs b) (hd : d ∉ o.looksAt ops) (h : Cert P F ops l L o v) : Cert P F ops (l.set d u) L o v := by
  have hlk : ∀ t ∈ o.looksAt ops, (⟨l.toArray, []⟩ : Act).tmps[t]? = (l.set d u)[t]? := fun t ht => by
    have : d ≠ t := fun e => hd (e ▸ ht)
    simp [List.getElem?_set_ne this]
  have h1 := eval_looks hs hlk
  have h2 := wanted_looks hlk
  rw [evl_eq] at h1
  have h3 := wantd_eq ops l o
  unfold Cert
  rw [← h1, ← h2, h3]
  exact h
theorem fill1 {s : DS} {b : Nat} {o : Oper} {d : Tmp} {v : Value} (ho : s.ops[b]? = some o) (hdst : o.dst = some d) (hc : (!s.kn.contains b && Nat.blt d s.l.length && !(o.looksAt s.ops).contains d && (depsOf o).all (fun e => !(s.al.map (·.1)).contains e) && s.pd.all (fun c => match s.ops[c]? with | none => false | some oc => !(oc.looksAt s.ops).contains d)) = true)
    (hv : Cert P F s.ops s.l s.L o v) (h : DG P K F ⟨s.ops, b :: s.kn, b :: s.pd, s.al, s.l.set d v, s.L⟩) : DG P K F s := by
  intro hw
  simp only [Bool.and_eq_true, Bool.not_eq_true'] at hc
  obtain ⟨⟨⟨⟨hkn, hlt⟩, hself⟩, hda⟩, hpd⟩ := hc
  have hkn' : b ∉ s.kn := by simpa using hkn
  have hlt' : d < s.l.length := by simpa [Nat.blt_eq] using hlt
  have hself' : d ∉ o.looksAt s.ops := by simpa using hself
  have hda' : ∀ j ∈ depsOf o, j ∉ s.al.map (·.1) := fun j hj hm => by
    have h1 := List.all_eq_true.1 hda j hj
    have h2 : (s.al.map (·.1)).contains j = true := List.contains_iff_mem.2 hm
    rw [h2] at h1
    cases h1
  have hpd' : ∀ c ∈ s.pd, ∀ oc, s.ops[c]? = some oc → d ∉ oc.looksAt s.ops := fun c hcm oc hoc hm => by
    have h1 := List.all_eq_true.1 hpd c hcm
    rw [hoc] at h1
    have h2 : (oc.looksAt s.ops).contains d = true := List.contains_iff_mem.2 hm
    simp only [h2] at h1
    cases h1
  have hbal : b ∉ s.al.map (·.1) := fun h => by
    obtain ⟨x, hx, e⟩ := List.mem_map.1 h
    exact hkn' (e ▸ hw.alk x hx)
  have hw' : DW P F ⟨s.ops, b :: s.kn, b :: s.pd, s.al, s.l.set d v, s.L⟩ := by
    refine ⟨hw.ok, hw.sel, hw.nodup, fun x hx => List.mem_cons_of_mem _ (hw.alk x hx), fun x hx => ?_, fun c hcm => ?_, fun c hcm => ?_⟩
    · obtain ⟨oc, dc, h1, h2⟩ := hw.als x hx
      exact ⟨oc, dc, h1, by simpa using h2⟩
    · rcases List.mem_cons.1 hcm with rfl | hcm
      · refine ⟨o, v, d, ho, hdst, by simp [hlt'], cert_set (fun cs b' => Region.noSelect_spec hw.sel _ o cs b' ho) hself' hv, hda'⟩
      · obtain ⟨oc, vc, dc, h1, h2, h3, h4, h5⟩ := hw.pd c hcm
        refine ⟨oc, vc, dc, h1, h2, ?_, cert_set (fun cs b' => Region.noSelect_spec hw.sel _ oc cs b' h1) (hpd' c hcm oc h1) h4, h5⟩
        show (s.l.set d v)[dc]? = some vc
        rw [List.getElem?_set_ne]
        · exact h3
        · rintro rfl
          have := hw.ok.uniq _ _ _ _ _ ho h1 hdst h2
          subst this
          exact hkn' (hw.pdk _ hcm).1
    · rcases List.mem_cons.1 hcm with rfl | hcm
      · exact ⟨List.mem_cons_self, hbal⟩
      · exact ⟨List.mem_cons_of_mem _ (hw.pdk c hcm).1, (hw.pdk c hcm).2⟩
  intro ls a W A hp
  refine h hw' ls a W A ⟨hp.size, fun i hi => List.mem_cons_of_mem _ (hp.sub i hi), fun i hi h1 h2 => ?_, ⟨by simpa using hp.agree.size, hp.agree.defers, fun t ht => ?_⟩, hp.als, hp.hold, hp.shut⟩
  · rcases List.mem_cons.1 hi with rfl | hi
    · exact absurd List.mem_cons_self h1
    · exact hp.sure i hi (fun h => h1 (List.mem_cons_of_mem _ h)) h2
  · show _ = (s.l.set d v)[t]?
    rw [List.getElem?_set_ne]
    · exact hp.agree.val t ht
    · rintro rfl
      rcases ht with ⟨i, oi, hi, hli, hia, hdi⟩ | hno
      · have := hw.ok.uniq _ _ _ _ _ hi ho hdi hdst
        subst this
        exact hkn' (hp.sub _ hli)
      · exact hno b o ho hdst
theorem fill_sound : ∀ (bs js : List Nat) (rp : List (Nat × Value)) (s : DS) (r : FR), dfill P bs js rp s = some r → Same r.E → (∀ p ∈ r.B, p) → DG P K F r.s → DG P K F s
  | [], _, _, s, r, h, hE, hB, hg => by cases h; exact hg
  | b :: bs, js, rp, s, r, h, hE, hB, hg => by
    simp only [dfill] at h
    split at h
    · cases h
    · rename_i o ho
      split at h
      · cases h
      · rename_i d hdst
        split at h
        · cases h
        · rename_i hc
          split at h
          · rename_i hwt
            exact fill1 ho hdst hc (.inr ⟨hwt, rfl⟩) (fill_sound bs js rp _ r h hE hB hg)
          · rename_i hwt
            split at h
            · rename_i v p hix
              obtain ⟨q, hq, e⟩ := Option.map_eq_some_iff.1 h
              subst e
              exact fill1 ho hdst hc (.inl ⟨hwt, fun W _ => idx_run hix (hB p List.mem_cons_self) W⟩) (fill_sound bs js rp _ q hq hE (fun p hp => hB p (List.mem_cons_of_mem _ hp)) hg)
            · split at h
              · rename_i v js' E hs
                split at h
                · obtain ⟨q, hq, e⟩ := Option.map_eq_some_iff.1 h
                  subst e
                  exact fill1 ho hdst hc (.inl ⟨hwt, fun W hW => symL_run _ js s.L W _ js' E hs (fun p hp => hE p (List.mem_append_left _ hp)) hW⟩) (fill_sound bs js' rp _ q hq (fun p hp => hE p (List.mem_append_right _ hp)) hB hg)
                · rename_i u hu
                  obtain ⟨q, hq, e⟩ := Option.map_eq_some_iff.1 h
                  subst e
                  have hvu : v = u := hB _ List.mem_cons_self
                  exact fill1 ho hdst hc (.inl ⟨hwt, fun W hW => by rw [symL_run _ js s.L W _ js' E hs (fun p hp => hE p (List.mem_append_left _ hp)) hW, hvu]⟩) (fill_sound bs js' (rv2 b rp) _ q hq (fun p hp => hE p (List.mem_append_right _ hp)) (fun p hp => hB p (List.mem_cons_of_mem _ hp)) hg)
              · cases h
/-- It waits for it, by at most n links. -/
def waitsT (ops : Array Oper) : Nat → Nat → Nat → Bool
  | 0, _, _ => false
  | n + 1, j, i => match ops[j]? with
    | none => false
    | some o => (depsOf o).any fun e => Nat.beq e i || waitsT ops n e i
theorem waitsT_spec {ops : Array Oper} {ls : Array Bool} (h : ∀ (i : Nat) (o : Oper), ops[i]? = some o → ls.getD i false = true → ∀ e ∈ depsOf o, ls.getD e false = true) : ∀ (n j i : Nat), waitsT ops n j i = true → (∀ o, ops[j]? = some o → ∀ e ∈ depsOf o, ls.getD e false = true) → ls.getD i false = true
  | 0, j, i, hw, _ => by cases hw
  | n + 1, j, i, hw, hj => by
    simp only [waitsT] at hw
    split at hw
    · cases hw
    · rename_i o ho
      obtain ⟨e, he, hb⟩ := List.any_eq_true.1 hw
      have h1 := hj o ho e he
      simp only [Bool.or_eq_true] at hb
      rcases hb with hb | hb
      · rw [← Nat.eq_of_beq_eq_true hb]
        exact h1
      · exact waitsT_spec h n e i hb fun o' ho' => h e o' ho' h1
def dput (s : DS) (j : Nat) (v : Value) : DS := ⟨s.ops, j :: s.kn, s.pd, s.al, setd s.l ((s.ops[j]?).bind (·.dst)) v, s.L⟩
/-- What must be for number j to come up. -/
def dcB (s : DS) (j : Nat) : Bool := match s.ops[j]? with
  | none => false
  | some o => !s.kn.contains j && clB s j && (depsOf o).all (fun e => !(s.al.map (·.1)).contains e) && match o.dst with
    | none => true
    | some d => s.pd.all fun c => match s.ops[c]? with | none => false | some oc => !(oc.looksAt s.ops).contains d
def dcallAt (P : Program) (s : DS) (j : Nat) : Option (FuncId × Array Value) :=
  match s.ops[j]? with
  | some o => match wantd s.ops s.l o with
    | true => match semP P (execOp (evl s.l) o) with
      | some (.enter f args) => some (f, args)
      | _ => none
    | false => none
  | none => none
theorem dcB_spec {s : DS} {j : Nat} (h : dcB s j = true) : ∃ o, s.ops[j]? = some o ∧ j ∉ s.kn ∧ clB s j = true ∧ (∀ e ∈ depsOf o, e ∉ s.al.map (·.1)) ∧ (∀ d, o.dst = some d → ∀ c ∈ s.pd, ∀ oc, s.ops[c]? = some oc → d ∉ oc.looksAt s.ops) := by
  unfold dcB at h
  split at h
  · cases h
  · rename_i o ho
    simp only [Bool.and_eq_true, Bool.not_eq_true'] at h
    obtain ⟨⟨⟨h1, h2⟩, h3⟩, h4⟩ := h
    refine ⟨o, ho, by simpa using h1, h2, fun e he hm => ?_, fun d hd c hc oc hoc hm => ?_⟩
    · have h5 := List.all_eq_true.1 h3 e he
      rw [List.contains_iff_mem.2 hm] at h5
      cases h5
    · rw [hd] at h4
      have h5 := List.all_eq_true.1 h4 c hc
      rw [hoc] at h5
      simp only [List.contains_iff_mem.2 hm] at h5
      cases h5
/-- The state behind number j bears what the rules lean on. -/
theorem dw_next {s : DS} {F' : List Asrt} (hw : DW P F s) {j : Nat} {o : Oper} (ho : s.ops[j]? = some o) (hjk : j ∉ s.kn) (hlk : ∀ d, o.dst = some d → ∀ c ∈ s.pd, ∀ oc, s.ops[c]? = some oc → d ∉ oc.looksAt s.ops) (v : Value) {pd' : List Nat} {L' : List Blk} (hsub : ∀ b ∈ pd', b ∈ s.pd)
    (hc : ∀ b ∈ pd', ∀ o v, s.ops[b]? = some o → Cert P F s.ops s.l s.L o v → Cert P F' s.ops s.l L' o v) : DW P F' ⟨s.ops, j :: s.kn, pd', s.al, setd s.l o.dst v, L'⟩ := by
  have hlen : (setd s.l o.dst v).length = s.l.length := by
    unfold setd
    split <;> simp
  refine ⟨hw.ok, hw.sel, hw.nodup, fun x hx => List.mem_cons_of_mem _ (hw.alk x hx), fun x hx => ?_, fun c hcm => ?_, fun c hcm => ⟨List.mem_cons_of_mem _ (hw.pdk c (hsub c hcm)).1, (hw.pdk c (hsub c hcm)).2⟩⟩
  · obtain ⟨oc, dc, h1, h2⟩ := hw.als x hx
    exact ⟨oc, dc, h1, by rw [hlen]; exact h2⟩
  · obtain ⟨oc, vc, dc, h1, h2, h3, h4, h5⟩ := hw.pd c (hsub c hcm)
    refine ⟨oc, vc, dc, h1, h2, ?_, ?_, h5⟩
    · show (setd s.l o.dst v)[dc]? = some vc
      cases hd : o.dst with
      | none => exact h3
      | some d =>
        simp only [setd]
        rw [List.getElem?_set_ne]
        · exact h3
        · rintro rfl
          have := hw.ok.uniq _ _ _ _ _ ho h1 hd h2
          subst this
          exact hjk (hw.pdk _ (hsub _ hcm)).1
    · have h6 := hc c hcm oc vc h1 h4
      cases hd : o.dst with
      | none => exact h6
      | some d => exact cert_set (fun cs b' => Region.noSelect_spec hw.sel _ oc cs b' h1) (hlk d hd c (hsub c hcm) oc h1) h6
/-- A call within such a region. -/
theorem dc0 {s : DS} (j : Nat) {f : FuncId} {args : Array Value} (R : World → Ending → World → Prop) (h : dcallAt P s j = some (f, args)) (hB : dcB s j = true) (hc : ∀ W, HoldR W F → Calls P f args W (R W))
    (hn : ∀ (L : List Blk) W, Hold W L F → ∀ e W', R W e W' → ∃ v F', e = .returned v ∧ Hold W' L F' ∧ (∀ W, HoldR W F' → HoldR W F) ∧ (∀ (L : List Blk) W, Hold W L F' → Hold W L F) ∧ DG P K F' (dput s j v)) : DG P K F s := by
  intro hw
  obtain ⟨o, ho, hjk, hcl, hda, hlk⟩ := dcB_spec hB
  refine ga_op hw ho hjk hcl hda fun ls a W A hp hr hdl hev hwt => ?_
  unfold dcallAt at h
  rw [ho] at h
  simp only at h
  split at h
  · rename_i hw1
    split at h
    · rename_i f' args' hs
      cases h
      refine wpOp_step ho fun K' hK => ?_
      rw [if_pos (hwt.trans hw1)]
      unfold Oper.wp
      rw [hev, semP_run _ _ W hs, Oper.upon_enter]
      refine (hc W (Hold.ff hp.hold)).mono fun e W' hR => ?_
      obtain ⟨v, F', rfl, hH, _, hback, hG⟩ := hn _ W hp.hold e W' hR
      have hdp : dput s j v = ⟨s.ops, j :: s.kn, s.pd, s.al, setd s.l o.dst v, s.L⟩ := by
        unfold dput
        rw [ho]
        rfl
      rw [hdp] at hG
      refine hK _ _ ((hG ?_) _ _ W' A (pre_next hw hp ho hjk hr v (fun b hb hnb => absurd hb hnb) hH))
      exact dw_next hw ho hjk hlk v (fun b hb => hb) fun b hb o' v' ho' hC => hC.imp (fun ⟨h1, h2⟩ => ⟨h1, fun W hW => h2 W (hback _ W hW)⟩) id
    · cases h
  · cases h
/-- A call that answers a value. -/
theorem dp {s : DS} (j : Nat) {f : FuncId} {args : Array Value} {v : Value} (hc : ∀ W, HoldR W F → Calls P f args W fun e W' => e = .returned v ∧ Below W.heap.size W W') (hn : DG P K F (dput s j v)) (h : dcallAt P s j = some (f, args) := by kernel_rfl) (hB : dcB s j = true := by kernel_rfl) : DG P K F s :=
  dc0 j (fun W e W' => e = .returned v ∧ Below W.heap.size W W') h hB hc fun L W hW e W' ⟨he, hb⟩ => ⟨v, F, he, HoldR.below hW hb, fun _ h => h, fun _ _ h => h, hn⟩
end
section
variable {P : Program} {Q : Exit → Act → World → Prop} {K : Exit → Act → World → Prop} {F : List Asrt}
/-- What of those that may wait asks no memory, or is left out. -/
def pureB (P : Program) (s : DS) (b : Nat) : Bool := match s.ops[b]? with
  | none => false
  | some o => match wantd s.ops s.l o with
    | false => true
    | true => match semP P (execOp (evl s.l) o) with
      | some (.value _) => true
      | _ => false
structure SR where
  s : DS
  E : List (Nat × Nat)
/-- A store within such a region, into blocks that are known. -/
def dstore (P : Program) (s : DS) (j : Nat) (js : List Nat) : Option SR := match s.ops[j]? with
  | none => none
  | some o => match wantd s.ops s.l o && s.al.isEmpty && dcB s j && s.pd.all (fun b => waitsT s.ops s.ops.size j b || pureB P s b) with
    | false => none
    | true => match sym P 0 (execOp (evl s.l) o) false js s.L with
      | some (.skip, L', _, E) => some ⟨⟨s.ops, j :: s.kn, s.pd.filter (fun b => !waitsT s.ops s.ops.size j b), s.al, setd s.l o.dst undef, L'⟩, E⟩
      | _ => none
theorem dstore_sound {s : DS} {j : Nat} {js : List Nat} {r : SR} (h : dstore P s j js = some r) (hE : Same r.E) (hG : DG P K F r.s) : DG P K F s := by
  intro hw
  unfold dstore at h
  split at h
  · cases h
  · rename_i o ho
    split at h
    · cases h
    · rename_i hcond
      split at h
      · rename_i L' js' E hs
        cases h
        simp only [Bool.and_eq_true] at hcond
        obtain ⟨⟨⟨hw1, hal⟩, hB⟩, hpd⟩ := hcond
        obtain ⟨o', ho', hjk, hcl, hda, hlk⟩ := dcB_spec hB
        rw [ho] at ho'
        cases ho'
        have hal' : s.al = [] := by simpa using hal
        refine ga_op hw ho hjk hcl hda fun ls a W A hp hr hdl hev hwt => ?_
        have hA : A = [] := by
          have := hp.als
          rw [hal'] at this
          cases this
          rfl
        subst hA
        refine wpOp_step ho fun K' hK => ?_
        rw [if_pos (hwt.trans hw1)]
        unfold Oper.wp
        obtain ⟨W', h1, h2⟩ := sym_run (F := F) 0 _ false js s.L W _ _ _ _ hs hE (fun e => by cases e) hp.hold
        rw [hev, h1, Oper.upon_skip]
        refine hK _ _ ((hG ?_) _ _ W' [] (pre_next hw hp ho hjk hr undef (fun b hb hnb => ?_) h2))
        · refine dw_next hw ho hjk hlk undef (fun b hb => (List.mem_filter.1 hb).1) fun b hb ob v hob hC => ?_
          obtain ⟨hbp, hnw⟩ := List.mem_filter.1 hb
          have h3 := List.all_eq_true.1 hpd b hbp
          simp only [Bool.or_eq_true] at h3
          rcases h3 with h3 | h3
          · simp [h3] at hnw
          · unfold pureB at h3
            rw [hob] at h3
            simp only at h3
            split at h3
            · rename_i hwf
              rcases hC with ⟨h4, _⟩ | h4
              · rw [hwf] at h4; cases h4
              · exact .inr h4
            · rename_i hwt'
              split at h3
              · rename_i v2 hs2
                rcases hC with ⟨h4, h5⟩ | ⟨h4, _⟩
                · have h6 := h5 W hp.hold
                  rw [semP_run _ _ W hs2] at h6
                  cases h6
                  exact .inl ⟨h4, fun W2 _ => semP_run _ _ W2 hs2⟩
                · rw [hwt'] at h4; cases h4
              · cases h3
        · have h3 : waitsT s.ops s.ops.size j b = true := by
            cases h4 : waitsT s.ops s.ops.size j b with
            | true => rfl
            | false => exact absurd (List.mem_filter.2 ⟨hb, by simp [h4]⟩) hnb
          exact waitsT_spec hp.shut _ _ _ h3 fun o' ho' => by
            rw [ho] at ho'
            cases ho'
            exact hdl
      · cases h
/-- The beginning. -/
def drFs (s : St) : List Fr := match s.fs with
  | .code (.region _ _ _) :: fs => fs
  | _ => []
def drOps (s : St) : Array Oper := match s.fs with
  | .code (.region _ ops _) :: _ => ops
  | _ => #[]
def drS (s : St) (al : List (Nat × TypeId × List Value)) : DS := ⟨drOps s, al.map (·.1), [], al, s.l, s.L⟩
def nodupB : List Nat → Bool
  | [] => true
  | x :: r => !r.contains x && nodupB r
theorem nodupB_spec : ∀ (l : List Nat), nodupB l = true → l.Nodup
  | [], _ => List.nodup_nil
  | x :: r, h => by
    simp only [nodupB, Bool.and_eq_true, Bool.not_eq_true'] at h
    exact List.nodup_cons.2 ⟨by simpa using h.1, nodupB_spec r h.2⟩
def drB (P : Program) (s : St) (ord : List Nat) (al : List (Nat × TypeId × List Value)) : Bool := (match s.fs with | .code (.region _ _ true) :: _ => true | _ => false) && P.follows .mixedOrders && dOK (drOps s) ord && Region.noSelect (drOps s) && nodupB (al.map (·.1)) &&
  al.all fun x => match (drOps s)[x.1]? with
    | none => false
    | some o => match o.dst, o.op with
      | some d, .alloc _ => Nat.blt d s.l.length && o.guard.isNone
      | _, _ => false
def alG (P : Program) (s : St) (x : Nat × TypeId × List Value) : Prop := ∀ (g : Nat) (L : List Blk), ((drOps s)[x.1]?).map (fun o => sym P g (execOp (evl []) o) true [] L) = some (some (.value (.pointer (some ⟨g, 0, none⟩)), (g, x.2.1, x.2.2) :: L, [], []))
theorem dr {s : St} (ord : List Nat) (al : List (Nat × TypeId × List Value)) (hal : AllB (al.map (alG P (nm s)))) (h : DG P (KK P Q (drFs (nm s))) F (drS (nm s) al)) (hB : drB P (nm s) ord al = true := by kernel_rfl) : Go P Q F s := by
  refine norm_sound 400 ?_
  show Go P Q F (nm s)
  revert hal h hB
  generalize nm s = s
  intro hal h hB
  unfold drB at hB
  simp only [Bool.and_eq_true] at hB
  obtain ⟨⟨⟨⟨⟨h1, h2⟩, h3⟩, h4⟩, h5⟩, h6⟩ := hB
  split at h1
  · rename_i id ops fs hfs
    have e1 : drFs s = fs := by simp only [drFs, hfs]
    have e2 : drOps s = ops := by simp only [drOps, hfs]
    intro W hW
    rw [hfs]
    show Code.wp P (.region id ops true) (KK P Q fs) _ W
    refine wp_region_any h2 ?_
    have hdw : DW P F (drS s al) := by
      refine ⟨dOK_spec h3, h4, nodupB_spec _ h5, fun x hx => List.mem_map.2 ⟨x, hx, rfl⟩, fun x hx => ?_, (fun b hb => by cases hb), (fun b hb => by cases hb)⟩
      have h7 := List.all_eq_true.1 h6 x hx
      have h8 : alG P s x := hal.spec _ (List.mem_map.2 ⟨x, hx, rfl⟩)
      split at h7
      · cases h7
      · rename_i o ho
        split at h7
        · rename_i d t hd hop
          simp only [Bool.and_eq_true] at h7
          refine ⟨o, d, ⟨ho, hd, by simpa using h7.2, ⟨t, hop⟩, fun g L => ?_⟩, Nat.le_of_ble_eq_true h7.1⟩
          have := h8 g L
          rw [ho] at this
          exact Option.some.inj this
        · cases h7
    have hrep : ∀ n i : Nat, (Array.replicate n false).getD i false = false := by
      intro n i
      rw [Array.getD_eq_getD_getElem?, Array.getElem?_replicate]
      split <;> rfl
    have hga := h hdw (Array.replicate ops.size false) ⟨s.l.toArray, []⟩ W.drew [] ⟨by simp [drS, e2], fun i hi => ?_, fun i hi h7 h8 => ?_, ⟨by simp [drS], rfl, fun t ht => by simp [drS]⟩, ?_, HoldR.drew hW, fun i o _ hl => ?_⟩
    · rw [e1] at hga
      have := hga ops.size (by simp [unl])
      rw [drS, e2] at this
      exact this
    · rw [hrep] at hi
      cases hi
    · exact absurd hi h8
    · have : ∀ al, AlOf (drOps s) (Array.replicate ops.size false) ⟨s.l.toArray, []⟩ al [] := by
        intro al
        induction al with
        | nil => exact .nil
        | cons x r ih => exact .no (hrep _ _) ih
      exact this al
    · rw [hrep] at hl
      cases hl
  · cases h1
def dS (P : Program) (bs js : List Nat) (rp : List (Nat × Value)) (s : DS) : DS := match dfill P bs js rp s with
  | some r => r.s
  | none => s
theorem df {s : DS} (bs : List Nat) (js : List (Nat × Nat)) (rp : List (Nat × Value)) (E : List (Nat × Nat)) (B : List Prop) (hB : AllB B) (hG : DG P K F (dS P bs (rl js) rp s)) (h : (dfill P bs (rl js) rp s).map (fun r => (r.E, r.B)) = some (dup E, B) := by kernel_rfl) : DG P K F s := by
  obtain ⟨r, hr, e⟩ := Option.map_eq_some_iff.1 h
  obtain ⟨e1, e2⟩ := Prod.mk.inj e
  refine fill_sound bs (rl js) rp s r hr (e1 ▸ dup_same E) (e2 ▸ hB.spec) ?_
  unfold dS at hG
  rw [hr] at hG
  exact hG
def sS (P : Program) (j : Nat) (js : List Nat) (s : DS) : DS := match dstore P s j js with
  | some r => r.s
  | none => s
theorem ds {s : DS} (j : Nat) (js : List (Nat × Nat)) (E : List (Nat × Nat)) (hG : DG P K F (sS P j (rl js) s)) (h : (dstore P s j (rl js)).map (fun r => r.E) = some (dup E) := by kernel_rfl) : DG P K F s := by
  obtain ⟨r, hr, e⟩ := Option.map_eq_some_iff.1 h
  refine dstore_sound hr (e ▸ dup_same E) ?_
  unfold sS at hG
  rw [hr] at hG
  exact hG
def deB (s : DS) : Bool := s.al.isEmpty && (List.range s.ops.size).all fun i => s.kn.contains i
theorem de {s : DS} {fs : List Fr} (h : Go P Q F ⟨fs, s.l, s.L⟩) (hB : deB s = true := by kernel_rfl) : DG P (KK P Q fs) F s := by
  intro hw
  simp only [deB, Bool.and_eq_true] at hB
  exact ga_done hw (fun i hi => by simpa using List.all_eq_true.1 hB.2 i (List.mem_range.2 hi)) (by simpa using hB.1) h
end
section
variable {P : Program} {Q : Exit → Act → World → Prop} {K : Exit → Act → World → Prop} {F : List Asrt}
abbrev zz : Value := undef
def bdy (f : Func) : Code := f.body.getD .skip
def ktp (I : Act → World → Prop) : List Fr → List Fr
  | .code (.loop _) :: fs => .post I :: fs
  | fs => fs
theorem cbT {p : Prop} [Decidable p] (h : p) : Value.bool (decide p) = .bool true := by rw [decide_eq_true h]
theorem cbF {p : Prop} [Decidable p] (h : ¬ p) : Value.bool (decide p) = .bool false := by rw [decide_eq_false h]
theorem cbE {a b : Int} (h : a = b) : Value.bool (a == b) = .bool true := by rw [beq_iff_eq.2 h]
theorem cbN {a b : Int} (h : a ≠ b) : Value.bool (a == b) = .bool false := by rw [beq_eq_false_iff_ne.2 h]
theorem cnF {a b : Int} (h : a = b) : Value.bool (a != b) = .bool false := by rw [bne_eq_false_iff_eq.2 h]
theorem HoldR.at {W : World} {R : List Asrt} (h : HoldR W R) (i : Nat) {A : Asrt} (hi : R[i]? = some A) : A.holds W := h.all A (List.mem_of_getElem? hi)
theorem HoldR.old {w W : World} {R : List Asrt} (h : HoldR W R) (i : Nat) (hi : R[i]? = some (Mach.old w)) : Below w.heap.size w W := h.at i hi
/-- The state, written out. -/
theorem st0 {fs : List Fr} {l' : List Value} {L' : List Blk} (l2 : List Value) (L2 : List Blk) (h : Go P Q F ⟨fs, l2, L2⟩) (hl : l' = l2 := by kernel_rfl) (hL : L' = L2 := by kernel_rfl) : Go P Q F ⟨fs, l', L'⟩ := by
  subst hl hL
  exact h
theorem st1 {s : St} (fs : List Fr) (l2 : List Value) (L2 : List Blk) (h : Go P Q F ⟨fs, l2, L2⟩) (hl : s = ⟨fs, l2, L2⟩ := by kernel_rfl) : Go P Q F s := by
  subst hl
  exact h
end
/-! ### Rows: read, and of one's own -/
/-- Elements that are read at a place. -/
structure RdAt {α : Type} (w : World) (B o sz : Nat) (enc : α → List Value) (l : List α) : Prop where
  lt : B < w.heap.size
  cell : ∀ (i : Nat) (x : α), l[i]? = some x → ∀ (j : Nat) (u : Value), (enc x)[j]? = some u → w.cell? ⟨B, o + i * sz + j, none⟩ = some u
def Rd {α : Type} (w : World) (v : Value) (sz : Nat) (enc : α → List Value) (l : List α) : Prop := ∃ A c, v = .slice A l.length c ∧ l.length ≤ c ∧ (l = [] ∨ ∃ B o, A = some ⟨B, o, none⟩ ∧ RdAt w B o sz enc l)
section
variable {α : Type} {w W W' : World} {B o sz : Nat} {enc : α → List Value} {l : List α} {v : Value}
theorem RdAt.move (h : RdAt w B o sz enc l) (hs : w.heap.size ≤ W.heap.size) (hb : W.heap[B]? = w.heap[B]?) : RdAt W B o sz enc l :=
  ⟨Nat.lt_of_lt_of_le h.lt hs, fun i x hx j u hu => (World.cell?_of_block (a := ⟨B, o + i * sz + j, none⟩) hb).trans (h.cell i x hx j u hu)⟩
theorem RdAt.below (h : RdAt w B o sz enc l) (hb : Below w.heap.size w W) : RdAt W B o sz enc l := h.move hb.size (hb.block B h.lt)
theorem Rd.below (h : Rd w v sz enc l) (hb : Below w.heap.size w W) : Rd W v sz enc l := by
  obtain ⟨A, c, h1, h2, h3⟩ := h
  refine ⟨A, c, h1, h2, h3.imp id fun ⟨B, o, h4, h5⟩ => ⟨B, o, h4, h5.below hb⟩⟩
theorem Rd.nil (w : World) (sz : Nat) (enc : α → List Value) : Rd w (.slice none 0 0) sz enc [] := ⟨none, 0, rfl, Nat.le_refl _, .inl rfl⟩
/-- Some cells of an element. -/
theorem RdAt.ld (h : RdAt w B o sz enc l) [Inhabited α] {i : Nat} (hi : i < l.length) (k : Nat) (vs : List Value) (hv : ((enc l[i]!).drop k).take vs.length = vs) : ∀ (j : Nat) (u : Value), vs[j]? = some u → w.cell? ⟨B, o + i * sz + k + j, none⟩ = some u := by
  intro j u hj
  rw [← hv, List.getElem?_take] at hj
  split at hj
  · rw [List.getElem?_drop] at hj
    have := h.cell i l[i]! (by rw [getElem!_pos l i hi]; simp [hi]) (k + j) u hj
    rw [← Nat.add_assoc] at this
    exact this
  · cases hj
theorem RdAt.take (h : RdAt w B o sz enc l) (n : Nat) : RdAt w B o sz enc (l.take n) := ⟨h.lt, fun i x hx => h.cell i x (by
  rw [List.getElem?_take] at hx
  split at hx
  · exact hx
  · cases hx)⟩
theorem RdAt.drop (h : RdAt w B o sz enc l) (n : Nat) : RdAt w B (o + n * sz) sz enc (l.drop n) := ⟨h.lt, fun i x hx j u hu => by
  rw [List.getElem?_drop] at hx
  have := h.cell (n + i) x hx j u hu
  rw [Nat.add_mul] at this
  rw [show o + n * sz + i * sz + j = o + (n * sz + i * sz) + j by omega]
  exact this⟩
end
/-- A row of one's own (or an empty one without room, wherever it points). -/
def ownR (W : World) (e : TypeId) (sz : Nat) (v : Value) (n : Nat) (xs : List Value) : Prop :=
  xs.length = n * sz ∧ ∃ A c, v = .slice A n c ∧ n ≤ c ∧ (c = 0 ∨ ∃ g cur, A = some ⟨g, 0, none⟩ ∧ W.heap[g]? = some (.cells cur e (0, 0)) ∧ c ≤ maxLen ∧ cur.size = c * sz ∧ cur.toList.take (n * sz) = xs)
def ownF (v : Value) (k : Nat) : Prop := ∃ n c, v = .slice (some ⟨k, 0, none⟩) n c ∧ 0 < c
def rowA (e : TypeId) (sz : Nat) (v : Value) (n : Nat) (xs : List Value) : Asrt where
  holds W := ownR W e sz v n xs
  fp k := ownF v k
  stable := fun W W' h1 h2 h3 h4 h5 h => by
    refine ⟨h.1, ?_⟩
    obtain ⟨A, c, rfl, hn, hc⟩ := h.2
    rcases Nat.eq_zero_or_pos c with h0 | hp
    · exact ⟨A, c, rfl, hn, .inl h0⟩
    · rcases hc with h0 | ⟨g, cur, rfl, hg, rest⟩
      · omega
      · exact ⟨_, c, rfl, hn, .inr ⟨g, cur, rfl, (h5 g ⟨n, c, rfl, hp⟩).trans hg, rest⟩⟩
  inb := fun W k h hk => by
    obtain ⟨A, c, rfl, hn, hc⟩ := h.2
    obtain ⟨n', c', e, hp⟩ := hk
    cases e
    rcases hc with h0 | ⟨g, cur, e, hg, rest⟩
    · omega
    · cases e
      exact (Array.getElem?_eq_some_iff.1 hg).1
theorem ownR.of {W : World} {b e sz n : Nat} {v : Value} {xs : List Value} (h : W.ownsRow b e sz v n xs) : ownR W e sz v n xs := by
  refine ⟨h.1, ?_⟩
  rcases h.2 with ⟨rfl, rfl⟩ | ⟨g, cap, cur, rfl, _, hg, h1, h2, h3, h4⟩
  · exact ⟨none, 0, rfl, Nat.le_refl _, .inl rfl⟩
  · exact ⟨_, cap, rfl, h1, .inr ⟨g, cur, rfl, hg, h2, h3, h4⟩⟩
theorem ownR.nil (W : World) (e sz : Nat) : ownR W e sz (.slice none 0 0) 0 [] := ⟨by simp, none, 0, rfl, Nat.le_refl _, .inl rfl⟩
theorem ownR.zero (W : World) (e sz : Nat) (A : Option Addr) : ownR W e sz (.slice A 0 0) 0 [] := ⟨by simp, A, 0, rfl, Nat.le_refl _, .inl rfl⟩
theorem flat_get {α : Type} {enc : α → List Value} {sz : Nat} (hs : ∀ x, (enc x).length = sz) : ∀ (l : List α) (i : Nat) (x : α), l[i]? = some x → ∀ (j : Nat) (u : Value), (enc x)[j]? = some u → (l.flatMap enc)[i * sz + j]? = some u
  | [], i, x, h, _, _, _ => by simp at h
  | y :: l, 0, x, h, j, u, hu => by
    have : y = x := by simpa using h
    subst this
    have hj := (List.getElem?_eq_some_iff.1 hu).1
    rw [List.flatMap_cons, Nat.zero_mul, Nat.zero_add, List.getElem?_append_left hj]
    exact hu
  | y :: l, i + 1, x, h, j, u, hu => by
    have := flat_get hs l i x (by simpa using h) j u hu
    rw [List.flatMap_cons, List.getElem?_append_right (by rw [hs, Nat.add_mul]; omega), hs, show (i + 1) * sz + j - sz = i * sz + j by rw [Nat.add_mul]; omega]
    exact this
theorem flat_len {α : Type} {enc : α → List Value} {sz : Nat} (hs : ∀ x, (enc x).length = sz) (l : List α) : (l.flatMap enc).length = l.length * sz := by
  induction l with
  | nil => simp
  | cons x l ih => rw [List.flatMap_cons, List.length_append, ih, hs, List.length_cons, Nat.add_mul]; omega
theorem own_rd {α : Type} {W : World} {e sz : Nat} {v : Value} {enc : α → List Value} {l : List α} (hs : ∀ x, (enc x).length = sz) (h : ownR W e sz v l.length (l.flatMap enc)) : Rd W v sz enc l := by
  obtain ⟨_, A, c, rfl, hn, hc⟩ := h
  refine ⟨A, c, rfl, hn, ?_⟩
  rcases hc with h0 | ⟨g, cur, rfl, hg, h2, h3, h4⟩
  · exact .inl (List.length_eq_zero_iff.1 (by omega))
  · refine .inr ⟨g, 0, rfl, (Array.getElem?_eq_some_iff.1 hg).1, fun i x hx j u hu => ?_⟩
    have h5 := flat_get hs l i x hx j u hu
    rw [← h4, List.getElem?_take] at h5
    split at h5
    · rw [Nat.zero_add]
      simp only [World.cell?, hg]
      simpa using h5
    · cases h5
/-- What a call has made: it lies in new blocks, apart. -/
structure Fresh (W W' : World) (R : List Asrt) : Prop where
  hold : HoldR W' R
  new : ∀ A ∈ R, ∀ k, A.fp k → W.heap.size ≤ k
  below : Below W.heap.size W W'
theorem Fresh.of {w W : World} {F R : List Asrt} (h : HoldR W F) (hs : List.Sublist (R ++ [old w]) F) : Fresh w W R := by
  have h1 := h.sub hs
  refine ⟨h1.sub (List.sublist_append_left _ _), fun A hA k hk => ?_, h1.all (old w) (List.mem_append_right _ (List.mem_singleton.2 rfl))⟩
  have h2 := (List.pairwise_append.1 h1.sep).2.2 A hA (old w) (List.mem_singleton.2 rfl)
  have h3 := h2 k hk
  exact Nat.le_of_not_lt h3
theorem HoldR.fresh {W W' : World} {F R : List Asrt} (h : HoldR W F) (hR : Fresh W W' R) : HoldR W' (R ++ F) := by
  refine ⟨fun A hA => ?_, List.pairwise_append.2 ⟨hR.hold.sep, (h.below hR.below).sep, fun A hA B hB k hk hk' => ?_⟩⟩
  · rcases List.mem_append.1 hA with hA | hA
    · exact hR.hold.all A hA
    · exact (h.below hR.below).all A hA
  · have h1 := hR.new A hA k hk
    have h2 := B.inb W k (h.all B hB) hk'
    omega
section
variable {P : Program} {Q : Exit → Act → World → Prop} {K : Exit → Act → World → Prop} {F : List Asrt}
theorem Hold.fresh {W W' : World} {L : List Blk} {F R : List Asrt} (h : Hold W L F) (hR : Fresh W W' R) : Hold W' L (R ++ F) := by
  refine (HoldR.fresh h hR).perm ?_
  rw [← List.append_assoc, ← List.append_assoc]
  exact List.perm_append_comm.append_right _
/-- A call that makes parts of the memory. -/
theorem cf {s : St} {f : FuncId} {args : Array Value} {X : Type} {v : X → Value} {R : X → List Asrt} (hc : ∀ W, HoldR W F → Calls P f args W fun e W' => ∃ x, e = .returned (v x) ∧ Fresh W W' (R x)) (hn : ∀ x, Go P Q (R x ++ F) (adv (nm s) (v x))) (h : callAt P (nm s) = some (f, args) := by kernel_rfl) : Go P Q F s :=
  cl0 (fun W e W' => ∃ x, e = .returned (v x) ∧ Fresh W W' (R x)) h (fun W hW => hc W (Hold.ff hW)) fun W hW e W' ⟨x, he, hx⟩ => ⟨v x, R x ++ F, he, Hold.fresh hW hx, hn x⟩
def rowT : TypeDesc → Bool
  | .struct _ => true
  | .array _ _ => true
  | _ => false
/-- A load from memory that is known by a fact. -/
def ldAt (P : Program) (s : St) : Option (Nat × Nat × Nat × Bool) :=
  match opAt s with
  | some o => match o.op with
    | .load t x => match evl s.l x, P.underlying t, P.info? t with
      | .pointer (some ⟨B, off, none⟩), some d, some i => some (B, off, i.size, (rowT d))
      | _, _, _ => none
    | _ => none
  | none => none
def ldV (row : Bool) (vs : List Value) : Value := match row with
  | true => .agg vs.toArray
  | false => vs.headD undef
theorem ld_run {ρ : Operand → Value} {o : Oper} {t : TypeId} {x : Operand} {B off : Nat} {d : TypeDesc} {i : TypeInfo} {W : World} {vs : List Value} (ho : o.op = .load t x) (hx : ρ x = .pointer (some ⟨B, off, none⟩)) (hu : P.underlying t = some d) (hi : P.info? t = some i) (hl : vs.length = i.size) (h1 : (rowT d) = false → vs.length = 1) (hv : ∀ (j : Nat) (u : Value), vs[j]? = some u → W.cell? ⟨B, off + j, none⟩ = some u) :
    (execOp ρ o).run P W = .ok (.value (ldV (rowT d) vs)) W := by
  unfold execOp
  rw [ho]
  simp only [hx]
  cases hd : (rowT d) with
  | true =>
    have hagg : (isAgg t).run P W = .ok true W := by
      unfold isAgg
      rw [Sem.run_bind, run_und hu W]
      cases d <;> simp_all [rowT]
    have hl' : (loadCells ⟨B, off, none⟩ vs.length).run P W = .ok vs.toArray W := run_loadCells_list (P := P) W ⟨B, off, none⟩ vs fun j u hj => by
      rw [Addr.add_at]
      exact hv j u hj
    simp [Instr.loadAt, Instr.sureAddr, loadVar, Sem.run_bind, hagg, run_size hi, ← hl, hl', ldV]
  | false =>
    have hagg : (isAgg t).run P W = .ok false W := by
      unfold isAgg
      rw [Sem.run_bind, run_und hu W]
      cases d <;> simp_all [rowT]
    match vs, h1 hd, hv with
    | [u], _, hv =>
      have hc : W.cell? ⟨B, off, none⟩ = some u := hv 0 u rfl
      simp [Instr.loadAt, Instr.sureAddr, loadVar, Sem.run_bind, hagg, hc, ldV]
theorem ldr {s : St} {B off n : Nat} {row : Bool} (vs : List Value) (hv : ∀ W, HoldR W F → ∀ (j : Nat) (u : Value), vs[j]? = some u → W.cell? ⟨B, off + j, none⟩ = some u) (hn : Go P Q F (adv (nm s) (ldV row vs))) (h : ldAt P (nm s) = some (B, off, n, row) := by kernel_rfl) (hl : vs.length = n := by kernel_rfl) (h1 : (row || Nat.beq n 1) = true := by kernel_rfl) : Go P Q F s := by
  unfold ldAt at h
  split at h
  · rename_i o ho
    split at h
    · rename_i t x hop
      split at h
      · rename_i B' off' d i hx hu hi
        cases h
        refine ev (execOp (evl (nm s).l) o) _ (by rw [ho]; rfl) (fun W hW => ld_run hop hx hu hi hl (fun hd => ?_) (hv W hW)) hn
        rw [hd] at h1
        rw [hl]
        exact Nat.eq_of_beq_eq_true (by simpa using h1)
      · cases h
    · cases h
  · cases h
def dldAt (P : Program) (s : DS) (b : Nat) : Option (Nat × Nat × Nat × Bool) :=
  match s.ops[b]? with
  | some o => match wantd s.ops s.l o, o.op with
    | true, .load t x => match evl s.l x, P.underlying t, P.info? t with
      | .pointer (some ⟨B, off, none⟩), some d, some i => some (B, off, i.size, (rowT d))
      | _, _, _ => none
    | _, _ => none
  | none => none
/-- What must be for a value to be told ahead. -/
def dvB (s : DS) (b : Nat) : Bool := match s.ops[b]? with
  | none => false
  | some o => match o.dst with
    | none => false
    | some d => !s.kn.contains b && Nat.blt d s.l.length && !(o.looksAt s.ops).contains d && (depsOf o).all (fun e => !(s.al.map (·.1)).contains e) && s.pd.all (fun c => match s.ops[c]? with | none => false | some oc => !(oc.looksAt s.ops).contains d)
def dpend (s : DS) (b : Nat) (v : Value) : DS := ⟨s.ops, b :: s.kn, b :: s.pd, s.al, setd s.l ((s.ops[b]?).bind (·.dst)) v, s.L⟩
theorem dldr {s : DS} (b : Nat) {B off n : Nat} {row : Bool} (vs : List Value) (hv : ∀ W, HoldR W F → ∀ (j : Nat) (u : Value), vs[j]? = some u → W.cell? ⟨B, off + j, none⟩ = some u) (hn : DG P K F (dpend s b (ldV row vs))) (h : dldAt P s b = some (B, off, n, row) := by kernel_rfl) (hl : vs.length = n := by kernel_rfl) (h1 : (row || Nat.beq n 1) = true := by kernel_rfl) (hB : dvB s b = true := by kernel_rfl) : DG P K F s := by
  unfold dldAt at h
  unfold dvB at hB
  unfold dpend at hn
  split at h
  · rename_i o ho
    rw [ho] at hB
    simp only at hB
    split at hB
    · cases hB
    · rename_i d hd
      split at h
      · rename_i t x hw hop
        split at h
        · rename_i B' off' dd i hx hu hi
          cases h
          rw [ho, Option.bind_some, hd] at hn
          refine fill1 ho hd hB (.inl ⟨hw, fun W hW => ld_run hop hx hu hi hl (fun he => ?_) (hv W (Hold.ff hW))⟩) hn
          rw [he] at h1
          rw [hl]
          exact Nat.eq_of_beq_eq_true (by simpa using h1)
        · cases h
      · cases h
  · cases h
end
section
variable {P : Program} {Q : Exit → Act → World → Prop} {K : Exit → Act → World → Prop} {F : List Asrt}
/-- An element's type, as an append asks it. -/
def infB (P : Program) (e sz bytes : Nat) : Bool := match P.info? e with
  | some i => (match i.zero with | some z => Nat.beq z.cells.size sz | none => false) && Nat.beq i.size sz && Nat.beq i.bytes bytes && Nat.blt 0 sz
  | none => false
theorem infB_spec {e sz bytes : Nat} (h : infB P e sz bytes = true) : ∃ i z, P.info? e = some i ∧ i.zero = some z ∧ i.size = sz ∧ i.bytes = bytes ∧ z.cells.size = sz ∧ 0 < sz := by
  unfold infB at h
  split at h
  · rename_i i hi
    simp only [Bool.and_eq_true] at h
    obtain ⟨⟨⟨h1, h2⟩, h3⟩, h4⟩ := h
    split at h1
    · rename_i z hz
      exact ⟨i, z, hi, hz, Nat.eq_of_beq_eq_true h2, Nat.eq_of_beq_eq_true h3, Nat.eq_of_beq_eq_true h1, Nat.le_of_ble_eq_true h4⟩
    · cases h1
  · cases h
theorem append_z {W : World} {t ty e : TypeId} {i : TypeInfo} {m c : Nat} {b : Addr} {x : Value} (ht : P.underlying t = some (.slice e)) (hi : P.info? e = some i) (hx : ∃ a, x = .slice a m c) (hm : 0 < m) (hmax : m ≤ maxLen) (hb : m * i.bytes ≤ 140737488355328) : (Builtin.append_ #[t, t] ty #[.slice (some b) 0 0, x]).run P W = (Builtin.append_ #[t, t] ty #[.slice none 0 0, x]).run P W := by
  obtain ⟨a, rfl⟩ := hx
  have h1 : m ≠ 0 := by omega
  have hnx : Builtin.nextslicecap m 0 = m := by
    unfold Builtin.nextslicecap
    rw [if_pos (by omega)]
  have h2 : ¬ (281474976710656 < m * i.bytes) := by omega
  have h3 : ¬ ((9223372036854775807 : Int) < (m : Int)) := by simp only [maxLen] at hmax; omega
  simp [Builtin.append_, Sem.run_bind, run_und ht, run_size hi, Builtin.lenOf, h1, hnx, h2, h3, typeInfo, program, Sem.run, hi, Builtin.firstCells, loadCells, loadCellsFrom]
theorem append_own {W : World} {t ty e : TypeId} {sz bytes n m c : Nat} {v : Value} {xs news : List Value} {ad : Addr} (ht : P.underlying t = some (.slice e)) (hi : infB P e sz bytes = true) (hown : ownR W e sz v n xs) (hl : news.length = m * sz) (hnews : ∀ (j : Nat) (u : Value), news[j]? = some u → W.cell? (ad.add j) = some u) (h1 : ∀ u ∈ news, cellV u = true) (hm : 0 < m) (hb : (n + m) * bytes ≤ 140737488355328) (hn : n + m ≤ maxLen) :
    ∃ v' W', (Builtin.append_ #[t, t] ty #[v, .slice (some ad) m c]).run P W = .ok v' W' ∧ ownR W' e sz v' (n + m) (xs ++ news) ∧ (∀ k, ownF v' k → ownF v k ∨ W.heap.size ≤ k) ∧ W'.os = W.os ∧ W'.tape = W.tape ∧ W'.output = W.output ∧ W.heap.size ≤ W'.heap.size ∧ (∀ k, k < W.heap.size → ¬ ownF v k → W'.heap[k]? = W.heap[k]?) := by
  obtain ⟨i, z, h2, h3, h4, h5, h6, h7⟩ := infB_spec hi
  have h1' : ∀ u ∈ news, u.oneCell' = true := fun u hu => by
    have := h1 u hu
    cases u <;> first | rfl | cases this
  obtain ⟨hlen, A, c0, rfl, hnc, hc⟩ := hown
  rcases Nat.eq_zero_or_pos c0 with h0 | hp
  · subst h0
    have hn0 : n = 0 := by omega
    subst hn0
    have hx0 : xs = [] := List.length_eq_zero_iff.1 (by omega)
    subst hx0
    obtain ⟨v', W', r1, r2, r3, r4, r5⟩ := run_append_own_at (P := P) (w := W) 0 t ty e i z sz bytes ht h2 h3 h4 h5 h6 h7 (.slice none 0 0) 0 [] (World.ownsRow_nil _ _ _ _) ad m c news hl hnews h1' hn hb (Nat.zero_le _)
    refine ⟨v', W', ?_, ownR.of r2, fun k hk => ?_, r3.os, r3.tape, r3.output, r3.size, fun k hk _ => r3.block k hk (by simp [Value.ownBlock])⟩
    · cases A with
      | none => exact r1
      | some b =>
        rw [append_z ht h2 ⟨_, rfl⟩ hm (by simpa using hn) (by rw [h5]; simpa using hb)]
        exact r1
    · obtain ⟨n', c', rfl, _⟩ := hk
      right
      rcases r5 with e | e
      · simp [Value.ownBlock] at e
      · simp [Value.ownBlock] at e
        omega
  · rcases hc with h0 | ⟨g, cur, rfl, hg, h8, h9, h10⟩
    · omega
    · have ho : W.ownsRow 0 e sz (.slice (some ⟨g, 0, none⟩) n c0) n xs := ⟨hlen, .inr ⟨g, c0, cur, rfl, Nat.zero_le _, hg, hnc, h8, h9, h10⟩⟩
      obtain ⟨v', W', r1, r2, r3, r4, r5⟩ := run_append_own_at (P := P) (w := W) 0 t ty e i z sz bytes ht h2 h3 h4 h5 h6 h7 _ n xs ho ad m c news hl hnews h1' hn hb (Nat.zero_le _)
      refine ⟨v', W', r1, ownR.of r2, fun k hk => ?_, r3.os, r3.tape, r3.output, r3.size, fun k hk hno => r3.block k hk fun e => ?_⟩
      · obtain ⟨n', c', rfl, _⟩ := hk
        rcases r5 with e | e
        · simp [Value.ownBlock] at e
          subst e
          exact .inl ⟨n, c0, rfl, hp⟩
        · simp [Value.ownBlock] at e
          exact .inr (by omega)
      · simp [Value.ownBlock] at e
        subst e
        exact hno ⟨n, c0, rfl, hp⟩
/-- An append at hand: the types, the slice, what is put behind it. -/
def apX (P : Program) (l : List Value) (o : Oper) : Option (TypeId × Value × Addr × Nat × Nat) :=
  match o.op with
  | .call { callee := .builtin .append, args := args, argTypes := tys } => match args.toList, tys.toList with
    | [a1, a2], [t, t'] => match P.underlying t, evl l a2, Nat.beq t t' with
      | some (.slice e), .slice (some ad) m c, true => some (e, evl l a1, ad, m, c)
      | _, _, _ => none
    | _, _ => none
  | _ => none
theorem apX_run {l : List Value} {ρ : Operand → Value} {o : Oper} {e : TypeId} {v : Value} {ad : Addr} {m c : Nat} (h : apX P l o = some (e, v, ad, m, c)) (hρ : ρ = evl l) : ∃ t ty, P.underlying t = some (.slice e) ∧ ∀ W v' W', (Builtin.append_ #[t, t] ty #[v, .slice (some ad) m c]).run P W = .ok v' W' → (execOp ρ o).run P W = .ok (.value v') W' := by
  subst hρ
  unfold apX at h
  split at h
  · rename_i args tys hop
    split at h
    · rename_i a1 a2 t t' ha htt
      split at h
      · rename_i e' ad' m' c' hu hx hb
        cases h
        have htt' : t = t' := Nat.eq_of_beq_eq_true hb
        subst htt'
        refine ⟨t, o.type, hu, fun W v' W' hr => ?_⟩
        have e1 : args = #[a1, a2] := by
          apply Array.toList_inj.1
          simpa using ha
        have e2 : tys = #[t, t] := by
          apply Array.toList_inj.1
          simpa using htt
        subst e1 e2
        unfold execOp
        simp only [hop, resolve, invoke, builtin, Sem.run_bind, Sem.run_pure, Result.andThen_ok, List.map_toArray, List.map_cons, List.map_nil, hx, hr]
      · cases h
    · cases h
  · cases h
def apAt (P : Program) (s : St) : Option (TypeId × Value × Addr × Nat × Nat) := match opAt s with
  | some o => apX P s.l o
  | none => none
theorem Hold.setF {W W' : World} {L : List Blk} {A B : Asrt} {i : Nat} (h : Hold W L F) (hi : F[i]? = some A) (h1 : W'.os = W.os) (h2 : W'.tape = W.tape) (h3 : W'.output = W.output) (h4 : W.heap.size ≤ W'.heap.size)
    (h5 : ∀ k, k < W.heap.size → ¬ A.fp k → W'.heap[k]? = W.heap[k]?) (hB : B.holds W') (hf : ∀ k, B.fp k → A.fp k ∨ W.heap.size ≤ k) : Hold W' L (F.set i B) := by
  have hR : (L.map blkA ++ F)[L.length + i]? = some A := by
    rw [List.getElem?_append_right (by simp), List.length_map, Nat.add_sub_cancel_left]
    exact hi
  have hs := HoldR.set h hR h1 h2 h3 h4 h5 hB hf
  rw [List.set_append_right _ _ (by simp), List.length_map, Nat.add_sub_cancel_left] at hs
  exact hs
/-- An operation that turns one part of the memory into another. -/
theorem evw {s : St} (i : Nat) {A : Asrt} {X : Type} {v : X → Value} {B : X → Asrt} {o : Oper} (ho : opAt (nm s) = some o) (hi : F[i]? = some A) (hv : ∀ W, Hold W (nm s).L F → ∃ x W', (execOp (evl (nm s).l) o).run P W = .ok (.value (v x)) W' ∧ W'.os = W.os ∧ W'.tape = W.tape ∧ W'.output = W.output ∧ W.heap.size ≤ W'.heap.size ∧ (∀ k, k < W.heap.size → ¬ A.fp k → W'.heap[k]? = W.heap[k]?) ∧ (B x).holds W' ∧ (∀ k, (B x).fp k → A.fp k ∨ W.heap.size ≤ k))
    (hn : ∀ x, Go P Q (F.set i (B x)) (adv (nm s) (v x))) : Go P Q F s := by
  refine norm_sound 400 ?_
  obtain ⟨all, r, fs, hfs, hw, hadv⟩ := opAt_spec ho
  intro W hW
  rw [hfs]
  refine wpList_step fun K hK => ?_
  rw [if_pos ((wantd_eq all _ o).trans hw)]
  unfold Oper.wp
  obtain ⟨x, W', hr, h1, h2, h3, h4, h5, hB, hf⟩ := hv W hW
  rw [evl_eq, hr, Oper.upon_value, put_eq]
  refine hK _ _ ?_
  have := hn x W'
  rw [hadv] at this
  exact this (Hold.setF hW hi h1 h2 h3 h4 h5 hB hf)
/-- append(v, ..) to a row of one's own; what is put behind it lies in a block that is known. -/
theorem ap {s : St} (i j : Nat) {e sz n m c g T : Nat} {v : Value} {xs cs : List Value} (bytes : Nat) (hF : F[i]? = some (rowA e sz v n xs)) (hb : (n + m) * bytes ≤ 140737488355328) (hm : n + m ≤ maxLen) (n' : Nat) (xs' : List Value) (e1 : n + m = n') (e2 : xs ++ cs = xs') (hn : ∀ (A : Option Addr) (k : Nat), Go P Q (F.set i (rowA e sz (.slice A n' k) n' xs')) (adv (nm s) (.slice A n' k)))
    (h : apAt P (nm s) = some (e, v, ⟨g, 0, none⟩, m, c) := by kernel_rfl) (hL : (nm s).L[j]? = some (g, T, cs) := by kernel_rfl) (hinf : infB P e sz bytes = true := by kernel_rfl) (h0 : (Nat.blt 0 m && Nat.beq cs.length (m * sz) && cs.all cellV) = true := by kernel_rfl) : Go P Q F s := by
  subst e1 e2
  unfold apAt at h
  split at h
  · rename_i o ho
    simp only [Bool.and_eq_true] at h0
    obtain ⟨⟨h1, h2⟩, h3⟩ := h0
    obtain ⟨t, ty, hu, hr⟩ := apX_run (ρ := evl (nm s).l) h rfl
    refine evw (X := Option Addr × Nat) (v := fun x => .slice x.1 (n + m) x.2) (B := fun x => rowA e sz (.slice x.1 (n + m) x.2) (n + m) (xs ++ cs)) i ho hF (fun W hW => ?_) fun x => hn x.1 x.2
    have hblk := Hold.getL hW hL
    obtain ⟨v', W', r1, r2, r3, r4, r5, r6, r7, r8⟩ := append_own (c := c) (ty := ty) (ad := ⟨g, 0, none⟩) hu hinf (hW.f i hF) (Nat.eq_of_beq_eq_true h2) (fun k u hk => by
      rw [Addr.add_at, Nat.zero_add]
      simp only [World.cell?, hblk]
      simpa using hk) (fun u hu => List.all_eq_true.1 h3 u hu) (Nat.le_of_ble_eq_true h1) hb hm
    obtain ⟨_, A, k, rfl, _⟩ := id r2
    exact ⟨(A, k), W', hr W _ W' r1, r4, r5, r6, r7, r8, r2, r3⟩
  · cases h
/-- A row that is nil. -/
theorem nilrow {s : St} (e sz : Nat) (h : Go P Q (rowA e sz (.slice none 0 0) 0 [] :: F) s) : Go P Q F s := by
  intro W hW
  refine h W ?_
  have h1 : HoldR W (rowA e sz (.slice none 0 0) 0 [] :: (s.L.map blkA ++ F)) := HoldR.cons hW (Below.refl _ _) (ownR.nil W e sz) fun k hk => by
    obtain ⟨n, c, e, _⟩ := hk
    cases e
  exact h1.perm List.perm_middle.symm
end
section
variable {P : Program} {Q : Exit → Act → World → Prop} {K : Exit → Act → World → Prop} {F : List Asrt}
def deffB (P : Program) (s : DS) (j : Nat) : Bool := match s.ops[j]? with
  | none => false
  | some o => wantd s.ops s.l o && s.al.isEmpty && dcB s j && s.pd.all (fun b => waitsT s.ops s.ops.size j b || pureB P s b)
def deffS (s : DS) (j : Nat) (v : Value) (L' : List Blk) : DS := ⟨s.ops, j :: s.kn, s.pd.filter (fun b => !waitsT s.ops s.ops.size j b), s.al, setd s.l ((s.ops[j]?).bind (·.dst)) v, L'⟩
/-- An operation of such a region that turns the memory, when it comes up. -/
theorem deff {s : DS} (j : Nat) {X : Type} {v : X → Value} {L' : X → List Blk} {F' : X → List Asrt} {o : Oper} (ho : s.ops[j]? = some o) (hB : deffB P s j = true) (hv : ∀ W, Hold W s.L F → ∃ x W', (execOp (evl s.l) o).run P W = .ok (.value (v x)) W' ∧ Hold W' (L' x) (F' x)) (hn : ∀ x, DG P K (F' x) (deffS s j (v x) (L' x))) : DG P K F s := by
  intro hw
  unfold deffB at hB
  rw [ho] at hB
  simp only [Bool.and_eq_true] at hB
  obtain ⟨⟨⟨hw1, hal⟩, hB⟩, hpd⟩ := hB
  obtain ⟨o', ho', hjk, hcl, hda, hlk⟩ := dcB_spec hB
  rw [ho] at ho'
  cases ho'
  have hal' : s.al = [] := by simpa using hal
  refine ga_op hw ho hjk hcl hda fun ls a W A hp hr hdl hev hwt => ?_
  have hA : A = [] := by
    have := hp.als
    rw [hal'] at this
    cases this
    rfl
  subst hA
  refine wpOp_step ho fun K' hK => ?_
  rw [if_pos (hwt.trans hw1)]
  unfold Oper.wp
  obtain ⟨x, W', h1, h2⟩ := hv W hp.hold
  rw [hev, h1, Oper.upon_value]
  have hG := hn x
  unfold deffS at hG
  rw [ho, Option.bind_some] at hG
  refine hK _ _ ((hG ?_) _ _ W' [] (pre_next hw hp ho hjk hr (v x) (fun b hb hnb => ?_) h2))
  · refine dw_next hw ho hjk hlk (v x) (fun b hb => (List.mem_filter.1 hb).1) fun b hb ob u hob hC => ?_
    obtain ⟨hbp, hnw⟩ := List.mem_filter.1 hb
    have h3 := List.all_eq_true.1 hpd b hbp
    simp only [Bool.or_eq_true] at h3
    rcases h3 with h3 | h3
    · simp [h3] at hnw
    · unfold pureB at h3
      rw [hob] at h3
      simp only at h3
      split at h3
      · rename_i hwf
        rcases hC with ⟨h4, _⟩ | h4
        · rw [hwf] at h4; cases h4
        · exact .inr h4
      · rename_i hwt'
        split at h3
        · rename_i v2 hs2
          rcases hC with ⟨h4, h5⟩ | ⟨h4, _⟩
          · have h6 := h5 W hp.hold
            rw [semP_run _ _ W hs2] at h6
            cases h6
            exact .inl ⟨h4, fun W2 _ => semP_run _ _ W2 hs2⟩
          · rw [hwt'] at h4; cases h4
        · cases h3
  · have h3 : waitsT s.ops s.ops.size j b = true := by
      cases h4 : waitsT s.ops s.ops.size j b with
      | true => rfl
      | false => exact absurd (List.mem_filter.2 ⟨hb, by simp [h4]⟩) hnb
    exact waitsT_spec hp.shut _ _ _ h3 fun o' ho' => by
      rw [ho] at ho'
      cases ho'
      exact hdl
def dnS (s : DS) (j : Nat) (v : Value) (b : Blk) : DS := ⟨s.ops, j :: s.kn, s.pd, s.al, setd s.l ((s.ops[j]?).bind (·.dst)) v, b :: s.L⟩
def dnB (s : DS) (j : Nat) : Bool := match s.ops[j]? with
  | none => false
  | some o => wantd s.ops s.l o && s.al.isEmpty && dcB s j
/-- A new block within such a region. -/
theorem dn {s : DS} (j : Nat) {v : Nat → Value} {b : Nat → Blk} (h : ∀ g (L : List Blk), ((s.ops[j]?).map fun o => sym P g (execOp (evl s.l) o) true [] L) = some (some (.value (v g), b g :: L, [], []))) (hn : ∀ g, DG P K F (dnS s j (v g) (b g))) (hB : dnB s j = true := by kernel_rfl) : DG P K F s := by
  intro hw
  unfold dnB at hB
  split at hB
  · cases hB
  · rename_i o ho
    simp only [Bool.and_eq_true] at hB
    obtain ⟨⟨hw1, hal⟩, hB⟩ := hB
    obtain ⟨o', ho', hjk, hcl, hda, hlk⟩ := dcB_spec hB
    rw [ho] at ho'
    cases ho'
    have hal' : s.al = [] := by simpa using hal
    refine ga_op hw ho hjk hcl hda fun ls a W A hp hr hdl hev hwt => ?_
    have hA : A = [] := by
      have := hp.als
      rw [hal'] at this
      cases this
      rfl
    subst hA
    refine wpOp_step ho fun K' hK => ?_
    rw [if_pos (hwt.trans hw1)]
    unfold Oper.wp
    have h1 := h W.heap.size s.L
    rw [ho] at h1
    have h2 := Option.some.inj h1
    obtain ⟨W', h3, h4⟩ := sym_run W.heap.size _ true [] s.L W _ _ _ _ h2 (fun p hp => by cases hp) (fun _ => rfl) hp.hold
    rw [hev, h3, Oper.upon_value]
    have hG := hn W.heap.size
    unfold dnS at hG
    rw [ho, Option.bind_some] at hG
    refine hK _ _ ((hG ?_) _ _ W' [] (pre_next hw hp ho hjk hr _ (fun b hb hnb => absurd hb hnb) h4))
    exact dw_next hw ho hjk hlk _ (fun b hb => hb) fun b' hb ob u hob hC => hC.imp (fun ⟨h5, h6⟩ => ⟨h5, fun W hW => h6 W (HoldR.tail hW)⟩) id
def dapAt (P : Program) (s : DS) (j : Nat) : Option (TypeId × Value × Addr × Nat × Nat) := match s.ops[j]? with
  | some o => apX P s.l o
  | none => none
/-- append(v, ..) within such a region. -/
theorem dap {s : DS} (b i j : Nat) {e sz n m c g T : Nat} {v : Value} {xs cs : List Value} (bytes : Nat) (hF : F[i]? = some (rowA e sz v n xs)) (hb : (n + m) * bytes ≤ 140737488355328) (hm : n + m ≤ maxLen) (n' : Nat) (xs' : List Value) (e1 : n + m = n') (e2 : xs ++ cs = xs') (hn : ∀ (A : Option Addr) (k : Nat), DG P K (F.set i (rowA e sz (.slice A n' k) n' xs')) (deffS s b (.slice A n' k) s.L))
    (h : dapAt P s b = some (e, v, ⟨g, 0, none⟩, m, c) := by kernel_rfl) (hL : s.L[j]? = some (g, T, cs) := by kernel_rfl) (hinf : infB P e sz bytes = true := by kernel_rfl) (h0 : (Nat.blt 0 m && Nat.beq cs.length (m * sz) && cs.all cellV) = true := by kernel_rfl) (hB : deffB P s b = true := by kernel_rfl) : DG P K F s := by
  subst e1 e2
  unfold dapAt at h
  split at h
  · rename_i o ho
    simp only [Bool.and_eq_true] at h0
    obtain ⟨⟨h1, h2⟩, h3⟩ := h0
    obtain ⟨t, ty, hu, hr⟩ := apX_run (ρ := evl s.l) h rfl
    refine deff (X := Option Addr × Nat) (v := fun x => .slice x.1 (n + m) x.2) (L' := fun _ => s.L) (F' := fun x => F.set i (rowA e sz (.slice x.1 (n + m) x.2) (n + m) (xs ++ cs))) b ho hB (fun W hW => ?_) fun x => hn x.1 x.2
    have hblk := Hold.getL hW hL
    obtain ⟨v', W', r1, r2, r3, r4, r5, r6, r7, r8⟩ := append_own (c := c) (ty := ty) (ad := ⟨g, 0, none⟩) hu hinf (hW.f i hF) (Nat.eq_of_beq_eq_true h2) (fun k u hk => by
      rw [Addr.add_at, Nat.zero_add]
      simp only [World.cell?, hblk]
      simpa using hk) (fun u hu => List.all_eq_true.1 h3 u hu) (Nat.le_of_ble_eq_true h1) hb hm
    obtain ⟨_, A, k, rfl, _⟩ := id r2
    exact ⟨(A, k), W', hr W _ W' r1, Hold.setF hW hF r4 r5 r6 r7 r8 r2 r3⟩
  · cases h
theorem append_none {W : World} {t ty e : TypeId} {i : TypeInfo} {n c0 c : Nat} {A : Option Addr} {x : Option Addr} (ht : P.underlying t = some (.slice e)) (hi : P.info? e = some i) (hn : n ≤ c0) : (Builtin.append_ #[t, t] ty #[.slice A n c0, .slice x 0 c]).run P W = .ok (.slice A n c0) W := by
  cases A <;> cases x <;> simp [Builtin.append_, Sem.run_bind, run_und ht, run_size hi, Builtin.lenOf, Builtin.firstCells, loadCells, loadCellsFrom, storeCells, hn]
def apsX (P : Program) (l : List Value) (o : Oper) : Option (TypeId × Value × Value) :=
  match o.op with
  | .call { callee := .builtin .append, args := args, argTypes := tys } => match args.toList, tys.toList with
    | [a1, a2], [t, t'] => match P.underlying t, Nat.beq t t' with
      | some (.slice e), true => some (e, evl l a1, evl l a2)
      | _, _ => none
    | _, _ => none
  | _ => none
theorem apsX_run {l : List Value} {o : Oper} {e : TypeId} {v x : Value} (h : apsX P l o = some (e, v, x)) : ∃ t ty, P.underlying t = some (.slice e) ∧ ∀ W v' W', (Builtin.append_ #[t, t] ty #[v, x]).run P W = .ok v' W' → (execOp (evl l) o).run P W = .ok (.value v') W' := by
  unfold apsX at h
  split at h
  · rename_i args tys hop
    split at h
    · rename_i a1 a2 t t' ha htt
      split at h
      · rename_i e' hu hb
        cases h
        have htt' : t = t' := Nat.eq_of_beq_eq_true hb
        subst htt'
        refine ⟨t, o.type, hu, fun W v' W' hr => ?_⟩
        have e1 : args = #[a1, a2] := by
          apply Array.toList_inj.1
          simpa using ha
        have e2 : tys = #[t, t] := by
          apply Array.toList_inj.1
          simpa using htt
        subst e1 e2
        unfold execOp
        simp only [hop, resolve, invoke, builtin, Sem.run_bind, Sem.run_pure, Result.andThen_ok, List.map_toArray, List.map_cons, List.map_nil, hr]
      · cases h
    · cases h
  · cases h
def apsAt (P : Program) (s : St) : Option (TypeId × Value × Value) := match opAt s with
  | some o => apsX P s.l o
  | none => none
/-- append(v, l...). -/
theorem aps {α : Type} {s : St} (i : Nat) {e sz n : Nat} {v y : Value} {xs : List Value} {enc : α → List Value} {l : List α} (bytes : Nat) (hF : F[i]? = some (rowA e sz v n xs)) (hy : ∀ W, HoldR W F → Rd W y sz enc l) (hs : ∀ x, (enc x).length = sz) (h1 : ∀ x, ∀ u ∈ enc x, cellV u = true) (hb : (n + l.length) * bytes ≤ 140737488355328) (hm : n + l.length ≤ maxLen) (n' : Nat) (xs' : List Value) (e1 : n + l.length = n') (e2 : xs ++ l.flatMap enc = xs') (hn : ∀ (A : Option Addr) (k : Nat), Go P Q (F.set i (rowA e sz (.slice A n' k) n' xs')) (adv (nm s) (.slice A n' k)))
    (h : apsAt P (nm s) = some (e, v, y) := by kernel_rfl) (hinf : infB P e sz bytes = true := by kernel_rfl) : Go P Q F s := by
  subst e1 e2
  unfold apsAt at h
  split at h
  · rename_i o ho
    obtain ⟨t, ty, hu, hr⟩ := apsX_run h
    refine evw (X := Option Addr × Nat) (v := fun x => .slice x.1 (n + l.length) x.2) (B := fun x => rowA e sz (.slice x.1 (n + l.length) x.2) (n + l.length) (xs ++ l.flatMap enc)) i ho hF (fun W hW => ?_) fun x => hn x.1 x.2
    have hown : ownR W e sz v n xs := hW.f i hF
    obtain ⟨A, c, rfl, hc, hA⟩ := hy W (Hold.ff hW)
    rcases hA with rfl | ⟨B, o', rfl, hat⟩
    · obtain ⟨i0, z, g1, g2, g3, g4, g5, g6⟩ := infB_spec hinf
      have hown' := hown
      obtain ⟨hl, A0, c0, rfl, hnc, _⟩ := hown
      refine ⟨(A0, c0), W, hr W _ W (append_none hu g1 hnc), rfl, rfl, rfl, Nat.le_refl _, fun _ _ _ => rfl, ?_, fun k hk => .inl hk⟩
      simpa [rowA] using hown'
    · rcases Nat.eq_zero_or_pos l.length with h0 | hp
      · have : l = [] := List.length_eq_zero_iff.1 h0
        subst this
        obtain ⟨i0, z, g1, g2, g3, g4, g5, g6⟩ := infB_spec hinf
        have hown' := hown
        obtain ⟨hl, A0, c0, rfl, hnc, _⟩ := hown
        refine ⟨(A0, c0), W, hr W _ W (append_none hu g1 hnc), rfl, rfl, rfl, Nat.le_refl _, fun _ _ _ => rfl, ?_, fun k hk => .inl hk⟩
        simpa [rowA] using hown'
      · have hsz := (infB_spec hinf).choose_spec.choose_spec.2.2.2.2.2
        obtain ⟨v', W', r1, r2, r3, r4, r5, r6, r7, r8⟩ := append_own (c := c) (ty := ty) (ad := ⟨B, o', none⟩) (news := l.flatMap enc) (m := l.length) hu hinf hown (flat_len hs l) (fun j u hj => by
          rw [Addr.add_at]
          have hjl : j < l.length * sz := by
            rw [← flat_len hs l]
            exact (List.getElem?_eq_some_iff.1 hj).1
          have hi : j / sz < l.length := Nat.div_lt_of_lt_mul (by rw [Nat.mul_comm]; exact hjl)
          have hd : j / sz * sz + j % sz = j := by rw [Nat.mul_comm]; exact Nat.div_add_mod j sz
          have hjm : j % sz < (enc l[j / sz]).length := by rw [hs]; exact Nat.mod_lt _ hsz
          have h5 := flat_get hs l (j / sz) l[j / sz] (by simp [hi]) (j % sz) (enc l[j / sz])[j % sz] (by simp [hjm])
          rw [hd, hj] at h5
          have h6 := hat.cell (j / sz) l[j / sz] (by simp [hi]) (j % sz) u (by rw [Option.some.inj h5]; simp [hjm])
          rw [Nat.add_assoc, hd] at h6
          exact h6) (fun u hu => by
          obtain ⟨x, _, hx⟩ := List.mem_flatMap.1 hu
          exact h1 x u hx) hp hb hm
        obtain ⟨_, A, k, rfl, _⟩ := id r2
        exact ⟨(A, k), W', hr W _ W' r1, r4, r5, r6, r7, r8, r2, r3⟩
  · cases h
/-- A slice of a slice. -/
def slX (P : Program) (l : List Value) (o : Oper) : Option (Option Addr × Nat × Nat × Option Value × Option Value × Option Value × Nat) :=
  match o.op with
  | .slice t x lo hi mx => match P.underlying t, evl l x with
    | some (.slice e), .slice A n c => match P.info? e with
      | some i => some (A, n, c, lo.map (evl l), hi.map (evl l), mx.map (evl l), i.size)
      | none => none
    | _, _ => none
  | _ => none
def bnd (d : Nat) : Option Value → Option Int
  | none => some d
  | some (.int _ i) => some i
  | some _ => none
def cutp (A : Option Addr) (lo m sz : Nat) : Option Addr := if m = lo then A else A.map (·.add (lo * sz))
theorem slX_run {l : List Value} {o : Oper} {A : Option Addr} {n c sz a b d : Nat} {lo hi mx : Option Value} (h : slX P l o = some (A, n, c, lo, hi, mx, sz)) (h1 : bnd 0 lo = some (a : Int)) (h2 : bnd n hi = some (b : Int)) (h3 : bnd c mx = some (d : Int)) (hx : mx.isSome = true → hi.isSome = true) (h4 : a ≤ b) (h5 : b ≤ d) (h6 : d ≤ c) (W : World) : (execOp (evl l) o).run P W = .ok (.value (.slice (cutp A a d sz) (b - a) (d - a))) W := by
  unfold slX at h
  split at h
  · rename_i t x lo' hi' mx' hop
    split at h
    · rename_i e A' n' c' hu hx'
      split at h
      · rename_i i hi0
        cases h
        have iv : ∀ (dd : Nat) (ov : Option Value) (z : Nat), bnd dd ov = some (z : Int) → (ov = none ∧ dd = z) ∨ ∃ k, ov = some (.int k (z : Int)) := by
          intro dd ov z hz
          cases ov with
          | none =>
            have h0 : (dd : Int) = z := Option.some.inj hz
            exact .inl ⟨rfl, by omega⟩
          | some v =>
            cases v <;> simp [bnd] at hz
            subst hz
            exact .inr ⟨_, rfl⟩
        unfold execOp
        simp only [hop, hx']
        have z1 : ((a : Int) ≤ (b : Int)) := by omega
        have z2 : ((b : Int) ≤ (d : Int)) := by omega
        have z3 : ((d : Int) ≤ (c : Int)) := by omega
        rcases iv _ _ _ h1 with ⟨e1, e1'⟩ | ⟨k1, e1⟩ <;> rcases iv _ _ _ h2 with ⟨e2, e2'⟩ | ⟨k2, e2⟩ <;> rcases iv _ _ _ h3 with ⟨e3, e3'⟩ | ⟨k3, e3⟩ <;> simp only [e1, e2, e3]
        all_goals first
          | (exfalso; have := hx (by rw [e3]; rfl); rw [e2] at this; cases this; done)
          | skip
        all_goals (try subst e1'); (try subst e2'); (try subst e3')
        all_goals simp [Instr.sliceAt, Instr.slice, Instr.sliceBounds, Instr.sliceBound, asIntOf, Sem.run_bind, run_und hu, run_size hi0, z1, z2, z3, h4, h5, h6, cutp]
        all_goals (try (intros; exfalso; omega))
      · cases h
    · cases h
  · cases h
end
section
variable {P : Program} {Q : Exit → Act → World → Prop} {K : Exit → Act → World → Prop} {F : List Asrt}
theorem cutp0 (A : Option Addr) (d sz : Nat) : cutp A 0 d sz = A := by
  unfold cutp
  split
  · rfl
  · rw [Nat.zero_mul]
    cases A <;> simp [Addr.add]
def slAt (P : Program) (s : St) : Option (Option Addr × Nat × Nat × Option Value × Option Value × Option Value × Nat) := match opAt s with
  | some o => slX P s.l o
  | none => none
/-- s[a:b:d]. -/
theorem sl {s : St} {A : Option Addr} {n c sz : Nat} (lo hi mx : Option Value) (a b d : Nat) (hx : (!mx.isSome || hi.isSome) = true) (h1 : bnd 0 lo = some (a : Int)) (h2 : bnd n hi = some (b : Int)) (h3 : bnd c mx = some (d : Int)) (h4 : a ≤ b) (h5 : b ≤ d) (h6 : d ≤ c) (hn : Go P Q F (adv (nm s) (.slice (cutp A a d sz) (b - a) (d - a)))) (h : slAt P (nm s) = some (A, n, c, lo, hi, mx, sz) := by kernel_rfl) : Go P Q F s := by
  unfold slAt at h
  split at h
  · rename_i o ho
    exact ev (execOp (evl (nm s).l) o) _ (by rw [ho]; rfl) (fun W _ => slX_run h h1 h2 h3 (fun h => by rw [h] at hx; simpa using hx) h4 h5 h6 W) hn
  · cases h
/-- s[:b:d]. -/
theorem sl0 {s : St} {A : Option Addr} {n c sz : Nat} (hi mx : Option Value) (b d : Nat) (hx : (!mx.isSome || hi.isSome) = true) (h2 : bnd n hi = some (b : Int)) (h3 : bnd c mx = some (d : Int)) (h5 : b ≤ d) (h6 : d ≤ c) (hn : Go P Q F (adv (nm s) (.slice A b d))) (lo : Option Value) (h1 : bnd 0 lo = some ((0 : Nat) : Int)) (h : slAt P (nm s) = some (A, n, c, lo, hi, mx, sz) := by kernel_rfl) : Go P Q F s :=
  sl lo hi mx 0 b d hx h1 h2 h3 (Nat.zero_le _) h5 h6 (by rw [cutp0]; exact hn) h
theorem Rd.cut {α : Type} {w : World} {A : Option Addr} {n c sz a b d : Nat} {enc : α → List Value} {l : List α} (h : Rd w (.slice A n c) sz enc l) (h4 : a ≤ b) (h5 : b ≤ l.length) (h7 : b ≤ d) : Rd w (.slice (cutp A a d sz) (b - a) (d - a)) sz enc ((l.take b).drop a) := by
  obtain ⟨A', c', e, hc, hA⟩ := h
  cases e
  have hl : ((l.take b).drop a).length = b - a := by rw [List.length_drop, List.length_take]; omega
  refine ⟨cutp A a d sz, d - a, by rw [hl], by rw [hl]; omega, ?_⟩
  rcases hA with rfl | ⟨B, o, rfl, hat⟩
  · exact .inl (by simp)
  · unfold cutp
    split
    · rename_i hda
      refine .inl (List.length_eq_zero_iff.1 ?_)
      rw [hl]
      omega
    · refine .inr ⟨B, o + a * sz, by simp [Addr.add_at], (hat.take b).drop a⟩
/-- The form of a row's value. -/
theorem shp {s : St} (i : Nat) {e sz n : Nat} {v : Value} {xs : List Value} (hF : F[i]? = some (rowA e sz v n xs)) (h : ∀ A c, v = .slice A n c → n ≤ c → (n = 0 ∨ ∃ g, A = some ⟨g, 0, none⟩) → xs.length = n * sz → Go P Q F s) : Go P Q F s := by
  intro W hW
  obtain ⟨h1, A, c, h2, h3, h4⟩ : ownR W e sz v n xs := hW.f i hF
  refine h A c h2 h3 ?_ h1 W hW
  rcases h4 with h4 | ⟨g, cur, h5, _⟩
  · exact .inl (by omega)
  · exact .inr ⟨g, h5⟩
theorem ownR.cell {W : World} {e sz n c g : Nat} {xs : List Value} (h : ownR W e sz (.slice (some ⟨g, 0, none⟩) n c) n xs) : ∀ (j : Nat) (u : Value), xs[j]? = some u → W.cell? ⟨g, j, none⟩ = some u := by
  intro j u hj
  obtain ⟨h1, A, c', e1, h3, h4⟩ := h
  cases e1
  have hjl := (List.getElem?_eq_some_iff.1 hj).1
  rcases h4 with h4 | ⟨g', cur, e2, hg, h5, h6, h7⟩
  · have : n = 0 := by omega
    subst this
    omega
  · cases e2
    rw [← h7, List.getElem?_take] at hj
    split at hj
    · simp only [World.cell?, hg]
      simpa using hj
    · cases hj
def stAt (P : Program) (s : St) : Option (Nat × Nat × List Value) := match opAt s with
  | some o => match o.op with
    | .store t x y => match evl s.l x, P.info? t with
      | .pointer (some ⟨B, off, none⟩), some i => match Nat.beq (evl s.l y).cells.size i.size with
        | true => some (B, off, (evl s.l y).cells.toList)
        | false => none
      | _, _ => none
    | _ => none
  | none => none
theorem st_run {ρ : Operand → Value} {o : Oper} {t : TypeId} {x y : Operand} {ad : Addr} {i : TypeInfo} (ho : o.op = .store t x y) (hx : ρ x = .pointer (some ad)) (hi : P.info? t = some i) (hl : (ρ y).cells.size = i.size) (W : World) : (execOp ρ o).run P W = (do storeCells ad (ρ y).cells.toList; pure Next.skip : Sem Next).run P W := by
  unfold execOp
  rw [ho]
  simp [hx, Instr.storeAt, Instr.sureAddr, storeVar, Sem.run_bind, run_size hi, hl]
theorem own_store {W : World} {e sz n g c off : Nat} : ∀ (vs : List Value) (i : Nat) (xs : List Value) (W : World), ownR W e sz (.slice (some ⟨g, 0, none⟩) n c) n xs → off + i + vs.length ≤ xs.length → vs.all cellV = true → ∃ W', (storeCells ⟨g, off, none⟩ vs i).run P W = .ok () W' ∧ ownR W' e sz (.slice (some ⟨g, 0, none⟩) n c) n (xs.take (off + i) ++ vs ++ xs.drop (off + i + vs.length)) ∧ W'.os = W.os ∧ W'.tape = W.tape ∧ W'.output = W.output ∧ W'.heap.size = W.heap.size ∧ (∀ k, k ≠ g → W'.heap[k]? = W.heap[k]?) := by
  intro vs
  induction vs with
  | nil =>
    intro i xs W h _ _
    refine ⟨W, rfl, ?_, rfl, rfl, rfl, rfl, fun _ _ => rfl⟩
    have e1 : xs.take (off + i) ++ [] ++ xs.drop (off + i + ([] : List Value).length) = xs := by simp
    rw [e1]
    exact h
  | cons v vs ih =>
    intro i xs W h hl hv
    simp only [List.all_cons, Bool.and_eq_true] at hv
    have hlt : off + i < xs.length := by simp only [List.length_cons] at hl; omega
    have h0 := h
    obtain ⟨h1, A, c', e1, h3, h4⟩ := h
    cases e1
    rcases h4 with h4 | ⟨g', cur, e2, hg, h5, h6, h7⟩
    · have : n = 0 := by omega
      subst this
      omega
    · cases e2
      have hc : W.cell? ((⟨g, off, none⟩ : Addr).add i) = some xs[off + i] := by
        rw [Addr.add_at]
        exact ownR.cell h0 _ _ (by simp [hlt])
      have hfz : W.frozen? ((⟨g, off, none⟩ : Addr).add i) = false := by
        rw [Addr.add_at]
        simp [World.frozen?, hg]
      have h8 : ownR (W.setCell ((⟨g, off, none⟩ : Addr).add i) v) e sz (.slice (some ⟨g, 0, none⟩) n c) n (xs.set (off + i) v) := by
        rw [Addr.add_at]
        refine ⟨by rw [List.length_set]; exact h1, _, c, rfl, h3, .inr ⟨g, cur.setIfInBounds (off + i) v, rfl, blk_put0 hg v rfl, h5, by simpa using h6, ?_⟩⟩
        rw [Array.toList_setIfInBounds, List.take_set, h7]
      obtain ⟨W', h9, h10, h11, h12, h13, h14, h15⟩ := ih (i + 1) (xs.set (off + i) v) _ h8 (by simp only [List.length_cons] at hl; simp; omega) hv.2
      refine ⟨W', ?_, ?_, h11, h12, h13, by rw [h14]; simp [World.setCell], fun k hk => (h15 k hk).trans (Below.heap_setCell W _ v k (by rw [Addr.add_at]; exact hk))⟩
      · have : (storeCells ⟨g, off, none⟩ (v :: vs) i) = (Sem.store .plain ((⟨g, off, none⟩ : Addr).add i) v (storeCells ⟨g, off, none⟩ vs (i + 1))) := rfl
        rw [this, run_store_cell hc hfz hv.1]
        exact h9
      · have e : (xs.set (off + i) v).take (off + (i + 1)) ++ vs ++ (xs.set (off + i) v).drop (off + (i + 1) + vs.length) = xs.take (off + i) ++ v :: vs ++ xs.drop (off + i + (v :: vs).length) := by
          rw [List.drop_set_of_lt (by omega), show off + (i + 1) = off + i + 1 by omega, List.take_set, List.take_succ_eq_append_getElem hlt, List.set_append_right _ _ (by simp; omega)]
          simp
          rw [show off + i - min (off + i) xs.length = 0 by omega]
          simp
          congr 1
          omega
        rw [e] at h10
        exact h10
/-- An element of a row of one's own is written. -/
theorem stw {s : St} (i : Nat) {e sz n c g off : Nat} {xs vs : List Value} (hF : F[i]? = some (rowA e sz (.slice (some ⟨g, 0, none⟩) n c) n xs)) (hl : off + vs.length ≤ xs.length) (xs' : List Value) (hx : xs.take off ++ vs ++ xs.drop (off + vs.length) = xs') (hn : Go P Q (F.set i (rowA e sz (.slice (some ⟨g, 0, none⟩) n c) n xs')) (adv (nm s) undef)) (h : stAt P (nm s) = some (g, off, vs) := by kernel_rfl) (h1 : vs.all cellV = true := by kernel_rfl) : Go P Q F s := by
  unfold stAt at h
  split at h
  · rename_i o ho
    split at h
    · rename_i t x y hop
      split at h
      · rename_i B off' inf hx' hi
        split at h
        · rename_i hsz
          cases h
          refine norm_sound 400 ?_
          obtain ⟨all, r, fs, hfs, hw, hadv⟩ := opAt_spec ho
          intro W hW
          rw [hfs]
          refine wpList_step fun K hK => ?_
          rw [if_pos ((wantd_eq all _ o).trans hw)]
          unfold Oper.wp
          rw [evl_eq, st_run hop hx' hi (Nat.eq_of_beq_eq_true hsz) W]
          have hown : ownR W e sz (.slice (some ⟨g, 0, none⟩) n c) n xs := hW.f i hF
          obtain ⟨W', h2, h3, h4, h5, h6, h7, h8⟩ := own_store (P := P) (off := off) (W := W) _ 0 xs W hown hl h1
          have hrun : (do storeCells ⟨g, off, none⟩ (evl (nm s).l y).cells.toList; pure Next.skip : Sem Next).run P W = .ok .skip W' := by
            rw [Sem.run_bind, h2]
            rfl
          rw [hrun, Oper.upon_skip, put_eq]
          refine hK _ _ ?_
          have := hn W'
          rw [hadv] at this
          have hc0 : 0 < c ∨ c = 0 := by omega
          refine this (Hold.setF hW hF h4 h5 h6 (by omega) (fun k hk hno => ?_) (by rw [← hx]; simpa [rowA] using h3) fun k hk => .inl hk)
          by_cases hkg : k = g
          · subst hkg
            rcases hc0 with hp | h0
            · exact absurd ⟨n, c, rfl, hp⟩ hno
            · have hvl : (evl (nm s).l y).cells.toList = [] := by
                obtain ⟨h1', A, c', e1, h3', _⟩ := hown
                cases e1
                have : n = 0 := by omega
                subst this
                apply List.length_eq_zero_iff.1
                omega
              rw [hvl] at h2
              cases h2
              rfl
          · exact h8 k hkg
        · cases h
      · cases h
    · cases h
  · cases h
theorem range_get {α : Type} : ∀ (F : List α), (List.range F.length).filterMap (F[·]?) = F
  | [] => rfl
  | x :: l => by
    rw [List.length_cons, List.range_succ_eq_map, List.filterMap_cons]
    simp only [List.getElem?_cons_zero, List.filterMap_map]
    congr 1
    have := range_get l
    simpa [Function.comp_def] using this
theorem permIx {α : Type} {F R : List α} (ix : List Nat) (h : ix.filterMap (F[·]?) = R) (hp : ix.Perm (List.range F.length)) : F.Perm R := by
  subst h
  have h1 := hp.filterMap (F[·]?)
  rw [range_get] at h1
  exact h1.symm
theorem permB (ix : List Nat) (n : Nat) (h : ix.isPerm (List.range n) = true) : ix.Perm (List.range n) := List.isPerm_iff.1 h
end
section
variable {P : Program} {Q : Exit → Act → World → Prop} {K : Exit → Act → World → Prop} {F : List Asrt}
theorem perm_out {α : Type} : ∀ {L : List α} {j : Nat} {b : α}, L[j]? = some b → L.Perm (b :: L.eraseIdx j)
  | [], j, b, h => by simp at h
  | x :: L, 0, b, h => by
    have : x = b := by simpa using h
    subst this
    exact List.Perm.refl _
  | x :: L, j + 1, b, h => by
    have h1 := perm_out (L := L) (j := j) (b := b) (by simpa using h)
    simp only [List.eraseIdx_cons_succ]
    exact (h1.cons x).trans (List.Perm.swap _ _ _)
/-- A block becomes a row of one's own. -/
theorem torow {s : St} (j : Nat) {g e n sz : Nat} {cs : List Value} (xs : List Value) (hn : cs.length = n * sz) (hm : n ≤ maxLen) (hx : cs = xs) (h : Go P Q (rowA e sz (.slice (some ⟨g, 0, none⟩) n n) n xs :: F) ⟨(nm s).fs, (nm s).l, (nm s).L.eraseIdx j⟩) (hj : (nm s).L[j]? = some (g, e, cs) := by kernel_rfl) : Go P Q F s := by
  subst hx
  refine norm_sound 400 ?_
  intro W hW
  refine h W ?_
  have h1 : HoldR W (blkA (g, e, cs) :: (((nm s).L.eraseIdx j).map blkA ++ F)) := by
    refine HoldR.perm hW ?_
    have := (perm_out hj).map blkA
    exact this.append_right F
  have h2 : HoldR W (rowA e sz (.slice (some ⟨g, 0, none⟩) n n) n cs :: (((nm s).L.eraseIdx j).map blkA ++ F)) := by
    have hb : W.heap[g]? = some (.cells cs.toArray e (0, 0)) := h1.all _ List.mem_cons_self
    refine ⟨fun A hA => ?_, List.pairwise_cons.2 ⟨fun B hB k hk hk' => ?_, (List.pairwise_cons.1 h1.sep).2⟩⟩
    · rcases List.mem_cons.1 hA with rfl | hA
      · refine ⟨hn, _, n, rfl, Nat.le_refl _, .inr ⟨g, cs.toArray, rfl, hb, hm, by simpa using hn, ?_⟩⟩
        rw [← hn]
        simp
      · exact h1.all A (List.mem_cons_of_mem _ hA)
    · obtain ⟨n', c', e1, _⟩ := hk
      cases e1
      exact (List.pairwise_cons.1 h1.sep).1 B hB g rfl hk'
  exact h2.perm List.perm_middle.symm
/-- The end of a body; its blocks besides. -/
theorem rtL {fn : Func} {R : Ending → World → Prop} {s : St} (v : Value) (js : List (Nat × Nat)) (E : List (Nat × Nat)) (L : List Blk) (hR : ∀ W, HoldR W (L.map blkA ++ F) → R (.returned v) W) (h : resAt P fn (rl js) (nm s) = some (v, dup E) := by kernel_rfl) (hL : (nm s).L = L := by kernel_rfl) : Go P (bodyPost P fn R) F s := by
  subst hL
  refine norm_sound 400 ?_
  have key : ∀ W, Hold W (nm s).L F → ∀ r : List Value × List (Nat × Nat), resV P (nm s).l (nm s).L fn.results.toList (rl js) = some r → (retV r.1, r.2) = (v, dup E) → (results fn (nm s).l.toArray).run P W = .ok v W := by
    intro W hW r hr e
    obtain ⟨r1, r2⟩ := r
    obtain ⟨rfl, rfl⟩ := Prod.mk.inj e
    exact retV_run hW hr (dup_same E)
  unfold resAt at h
  split at h
  · rename_i fs hfs
    obtain ⟨r, hr, e⟩ := Option.map_eq_some_iff.1 h
    intro W hW
    rw [hfs]
    exact wp_ret (KK_ret ⟨rfl, v, key W hW r hr e, hR W hW⟩)
  · rename_i hfs
    obtain ⟨r, hr, e⟩ := Option.map_eq_some_iff.1 h
    intro W hW
    rw [hfs]
    exact ⟨rfl, v, key W hW r hr e, hR W hW⟩
  · cases h
/-- A block that a call has made is taken among the known ones. -/
theorem toL {s : St} {b : Blk} (h : Go P Q F ⟨(nm s).fs, (nm s).l, b :: (nm s).L⟩) : Go P Q (blkA b :: F) s := by
  refine norm_sound 400 ?_
  intro W hW
  refine h W ?_
  exact HoldR.perm hW List.perm_middle
/-- An element's address in a slice whose place is told by an equation. -/
def ixX (P : Program) (l : List Value) (o : Oper) : Option (Option Addr × Nat × Int × Nat) :=
  match o.op with
  | .indexAddr t x i => match P.underlying t, evl l x, evl l i with
    | some (.slice e), .slice A n _, .int _ j => match P.info? e with
      | some inf => some (A, n, j, inf.size)
      | none => none
    | _, _, _ => none
  | _ => none
theorem ixX_run {l : List Value} {o : Oper} {A : Option Addr} {B b n i sz : Nat} {j : Int} (h : ixX P l o = some (A, n, j, sz)) (hA : A = some ⟨B, b, none⟩) (hj : j = (i : Int)) (hi : i < n) (W : World) : (execOp (evl l) o).run P W = .ok (.value (.pointer (some ⟨B, b + i * sz, none⟩))) W := by
  subst hA hj
  unfold ixX at h
  split at h
  · rename_i t x ix hop
    split at h
    · rename_i e A' n' c' k j' hu hx hix
      split at h
      · rename_i inf hinf
        cases h
        unfold execOp
        simp only [hop, hx, hix]
        have h1 : ((i : Int) < (n : Int)) := by omega
        simp [Instr.indexAt, Sem.run_bind, asIntOf, run_und hu, run_size hinf, hi, Addr.add_at]
      · cases h
    · cases h
  · cases h
def ixAt (P : Program) (s : St) : Option (Option Addr × Nat × Int × Nat) := match opAt s with
  | some o => ixX P s.l o
  | none => none
theorem ixr {s : St} {A : Option Addr} {B b n sz : Nat} {j : Int} (hA : A = some ⟨B, b, none⟩) (i : Nat) (hi : i < n) (hn : Go P Q F (adv (nm s) (.pointer (some ⟨B, b + i * sz, none⟩)))) (h : ixAt P (nm s) = some (A, n, j, sz) := by kernel_rfl) (hj : j = (i : Int) := by rfl) : Go P Q F s := by
  unfold ixAt at h
  split at h
  · rename_i o ho
    exact ev (execOp (evl (nm s).l) o) _ (by rw [ho]; rfl) (fun W _ => ixX_run h hA hj hi W) hn
  · cases h
def dixAt (P : Program) (s : DS) (b : Nat) : Option (Option Addr × Nat × Int × Nat) := match s.ops[b]? with
  | some o => match wantd s.ops s.l o with
    | true => ixX P s.l o
    | false => none
  | none => none
theorem dixr {s : DS} (k : Nat) {A : Option Addr} {B b n sz : Nat} {j : Int} (hA : A = some ⟨B, b, none⟩) (i : Nat) (hi : i < n) (hn : DG P K F (dpend s k (.pointer (some ⟨B, b + i * sz, none⟩)))) (h : dixAt P s k = some (A, n, j, sz) := by kernel_rfl) (hj : j = (i : Int) := by rfl) (hB : dvB s k = true := by kernel_rfl) : DG P K F s := by
  unfold dixAt at h
  unfold dvB at hB
  unfold dpend at hn
  split at h
  · rename_i o ho
    rw [ho] at hB
    simp only at hB
    split at hB
    · cases hB
    · rename_i dd hd
      split at h
      · rename_i hw
        rw [ho, Option.bind_some, hd] at hn
        exact fill1 ho hd hB (.inl ⟨hw, fun W _ => ixX_run h hA hj hi W⟩) hn
      · cases h
  · cases h
end
section
variable {P : Program} {Q : Exit → Act → World → Prop} {K : Exit → Act → World → Prop} {F : List Asrt}
/-- Two structs (or arrays) are held against each other. -/
def eqX (P : Program) (l : List Value) (o : Oper) : Option (Bool × TypeId × Value × Value) :=
  match o.op with
  | .binOp op t x y _ => match op, evl l x, evl l y, P.eqGuardType P.depth t with
    | .eql, .agg a, .agg b, false => some (true, t, .agg a, .agg b)
    | .neq, .agg a, .agg b, false => some (false, t, .agg a, .agg b)
    | _, _, _, _ => none
  | _ => none
theorem eqX_run {l : List Value} {o : Oper} {pos : Bool} {t : TypeId} {a b : Value} {r : Bool} {W : World} (h : eqX P l o = some (pos, t, a, b)) (hr : (Op.equal t a b).run P W = .ok r W) : (execOp (evl l) o).run P W = .ok (.value (.bool (r == pos))) W := by
  unfold eqX at h
  split at h
  · rename_i op t' x y u hop
    split at h
    · rename_i a' b' hx hy hg
      cases h
      unfold execOp
      rw [hop]
      simp only [hx, hy]
      have hgd : (eqGuard .eql t x y (.agg a') (.agg b')).run P W = .ok () W := by
        simp [eqGuard, Sem.run_bind, program, Sem.run, hg]
      simp only [Sem.run_bind, hgd, Result.andThen_ok]
      simp [binOp, Sem.run_bind, hr]
    · rename_i a' b' hx hy hg
      cases h
      unfold execOp
      rw [hop]
      simp only [hx, hy]
      have hgd : (eqGuard .neq t x y (.agg a') (.agg b')).run P W = .ok () W := by
        simp [eqGuard, Sem.run_bind, program, Sem.run, hg]
      simp only [Sem.run_bind, hgd, Result.andThen_ok]
      simp [binOp, Sem.run_bind, hr]
    · cases h
  · cases h
def deqAt (P : Program) (s : DS) (b : Nat) : Option (Bool × TypeId × Value × Value) := match s.ops[b]? with
  | some o => match wantd s.ops s.l o with
    | true => eqX P s.l o
    | false => none
  | none => none
theorem deqr {s : DS} (k : Nat) {pos : Bool} {t : TypeId} {a b : Value} {r : Bool} (v : Bool) (hr : ∀ W, (Op.equal t a b).run P W = .ok r W) (hv : (r == pos) = v) (hn : DG P K F (dpend s k (.bool v))) (h : deqAt P s k = some (pos, t, a, b) := by kernel_rfl) (hB : dvB s k = true := by kernel_rfl) : DG P K F s := by
  subst hv
  unfold deqAt at h
  unfold dvB at hB
  unfold dpend at hn
  split at h
  · rename_i o ho
    rw [ho] at hB
    simp only at hB
    split at hB
    · cases hB
    · rename_i dd hd
      split at h
      · rename_i hw
        rw [ho, Option.bind_some, hd] at hn
        exact fill1 ho hd hB (.inl ⟨hw, fun W _ => eqX_run h (hr W)⟩) hn
      · cases h
  · cases h
end
theorem Rd.at {α : Type} {w : World} {A : Option Addr} {n c sz : Nat} {enc : α → List Value} {l : List α} (h : Rd w (.slice A n c) sz enc l) {i : Nat} (hi : i < l.length) : ∃ B o, A = some ⟨B, o, none⟩ ∧ RdAt w B o sz enc l := by
  obtain ⟨A', c', e, hc, hA⟩ := h
  cases e
  rcases hA with rfl | hA
  · simp at hi
  · exact hA
theorem Rd.cap {α : Type} {w : World} {A : Option Addr} {n c sz : Nat} {enc : α → List Value} {l : List α} (h : Rd w (.slice A n c) sz enc l) : n = l.length ∧ l.length ≤ c := by
  obtain ⟨A', c', e, hc, hA⟩ := h
  cases e
  exact ⟨rfl, hc⟩
theorem Rd.take {α : Type} {w : World} {A : Option Addr} {n c sz b : Nat} {enc : α → List Value} {l : List α} (h : Rd w (.slice A n c) sz enc l) (hb : b ≤ l.length) : Rd w (.slice A b c) sz enc (l.take b) := by
  have h1 := Rd.cut (a := 0) (d := c) h (Nat.zero_le _) hb (Nat.le_trans hb h.cap.2)
  rw [cutp0, List.drop_zero, Nat.sub_zero, Nat.sub_zero] at h1
  exact h1
section
variable {P : Program} {Q : Exit → Act → World → Prop} {F : List Asrt}
/-- An element's place in a row of one's own. -/
theorem ixo {s : St} (i : Nat) {e sz n c : Nat} {A : Option Addr} {xs : List Value} {j : Int} (hF : F[i]? = some (rowA e sz (.slice A n c) n xs)) (k : Nat) (hk : k < n) (hn : ∀ g, A = some ⟨g, 0, none⟩ → Go P Q F (adv (nm s) (.pointer (some ⟨g, 0 + k * sz, none⟩)))) (h : ixAt P (nm s) = some (A, n, j, sz) := by kernel_rfl) (hj : j = (k : Int) := by rfl) : Go P Q F s := by
  refine shp i hF fun A' c' e0 hc hz _ => ?_
  cases e0
  rcases hz with hz | ⟨g, hg⟩
  · omega
  · exact ixr hg k hk (hn g hg) h hj
/-- A store into a row of one's own whose place is told by an equation. -/
theorem sto {s : St} (i : Nat) {e sz n c g off : Nat} {A : Option Addr} {xs vs : List Value} (hA : A = some ⟨g, 0, none⟩) (hF : F[i]? = some (rowA e sz (.slice A n c) n xs)) (hl : off + vs.length ≤ xs.length) (xs' : List Value) (hx : xs.take off ++ vs ++ xs.drop (off + vs.length) = xs') (hn : Go P Q (F.set i (rowA e sz (.slice A n c) n xs')) (adv (nm s) undef)) (h : stAt P (nm s) = some (g, off, vs) := by kernel_rfl) (h1 : vs.all cellV = true := by kernel_rfl) : Go P Q F s := by
  subst hA
  exact stw i hF hl xs' hx hn h h1
end
section
variable {P : Program} {Q : Exit → Act → World → Prop} {F : List Asrt}
/-- A loop whose rounds are walked one by one: n more of them at most. -/
theorem lu {s : St} (n : Nat) (hn : ∀ I : Nat → Act → World → Prop, (∀ (m : Nat) (F' : List Asrt) (l : List Value) (L : List Blk), Go P Q F' ⟨ktl [] (I m) (nm s).fs, l, L⟩ → Go P Q F' ⟨ktp (I (m + 1)) (nm s).fs, l, L⟩) → Go P Q F ⟨ktl [] (I n) (nm s).fs, (nm s).l, (nm s).L⟩) (hk : isLp (nm s).fs = true := by kernel_rfl) : Go P Q F s := by
  refine norm_sound 400 ?_
  unfold isLp at hk
  split at hk
  · rename_i c fs hfs
    intro W hW
    rw [hfs]
    refine wp_loop_rounds (n + 1) ?_
    have h1 := hn (fun m => Code.rounds P c (KK P Q fs) m) (fun m F' l L hg => by
      rw [hfs] at hg ⊢
      intro W hW
      have h2 := hg W hW
      show Code.rounds P c (KK P Q fs) (m + 1) _ _
      rw [rounds_succ]
      cases c <;> exact h2) W hW
    rw [hfs] at h1
    rw [rounds_succ]
    cases c <;> exact h1
  · cases hk
theorem lv {s : St} {I : Nat → Act → World → Prop} {k : List Fr} (hI : ∀ (m : Nat) (F' : List Asrt) (l : List Value) (L : List Blk), Go P Q F' ⟨ktl [] (I m) k, l, L⟩ → Go P Q F' ⟨ktp (I (m + 1)) k, l, L⟩) (m : Nat) (hn : Go P Q F ⟨ktl [] (I m) k, (nm s).l, (nm s).L⟩) (h : (nm s).fs = ktp (I (m + 1)) k := by kernel_rfl) : Go P Q F s := by
  refine norm_sound 400 ?_
  have := hI m F (nm s).l (nm s).L hn
  rw [← h] at this
  exact this
/-- A call that is walked in place. -/
theorem ci {s : St} {f : FuncId} {args : List Value} {fn : Func} {c : Code} (hf : P.funcs[f]? = some fn) (hn : ∀ R : Ending → World → Prop, (∀ (v : Value) (L : List Blk) (F' : List Asrt), Go P Q F' ⟨(adv (nm s) v).fs, (adv (nm s) v).l, L⟩ → ∀ W, HoldR W (L.map blkA ++ F') → R (.returned v) W) → Go P (bodyPost P fn R) F ⟨[.code c], ini args fn.ntmps, (nm s).L⟩) (hb : fn.body = some c := by kernel_rfl) (h : callAt P (nm s) = some (f, args.toArray) := by kernel_rfl) : Go P Q F s := by
  refine norm_sound 400 ?_
  unfold callAt at h
  split at h
  · rename_i o ho
    split at h
    · rename_i f' args' hs
      cases h
      obtain ⟨all, r, fs, hfs, hw, hadv⟩ := opAt_spec ho
      intro W hW
      rw [hfs]
      refine wpList_step fun K hK => ?_
      rw [if_pos ((wantd_eq all _ o).trans hw)]
      unfold Oper.wp
      rw [evl_eq, semP_run _ _ W hs, Oper.upon_enter]
      have h1 := hn (fun e W' => ∃ v, e = .returned v ∧ KK P Q (adv (nm s) v).fs .normal ⟨(adv (nm s) v).l.toArray, []⟩ W') (fun v L F' hg W' hW' => ⟨v, rfl, hg W' hW'⟩) W hW
      have h2 : Calls P f args.toArray W (fun e W' => ∃ v, e = .returned v ∧ KK P Q (adv (nm s) v).fs .normal ⟨(adv (nm s) v).l.toArray, []⟩ W') := by
        refine calls_of_wp hf hb ?_
        have e : args.toArray ++ Array.replicate (fn.ntmps - args.toArray.size) undef = (ini args fn.ntmps).toArray := by
          simp [ini]
        rw [e]
        exact wp_mono h1 fun e a w' q => q
      refine h2.mono fun e W' hR => ?_
      obtain ⟨v, rfl, hG⟩ := hR
      show K _ _
      rw [put_eq]
      refine hK _ _ ?_
      rw [hadv] at hG
      exact hG
    · cases h
  · cases h
end
section
variable {P : Program} {Q : Exit → Act → World → Prop} {K : Exit → Act → World → Prop} {F : List Asrt}
theorem Rd.atG {α : Type} {W : World} {g o n c sz : Nat} {enc : α → List Value} {l : List α} (h : Rd W (.slice (some ⟨g, o, none⟩) n c) sz enc l) (hl : 0 < l.length) : RdAt W g o sz enc l := by
  obtain ⟨B, o', e, h⟩ := h.at hl
  cases e
  exact h
end
section
variable {P : Program} {Q : Exit → Act → World → Prop} {K : Exit → Act → World → Prop} {F : List Asrt}
theorem Rd.flat {α : Type} {W : World} {A : Option Addr} {n c sz : Nat} {enc : α → List Value} {l : List α} (hs : ∀ x, (enc x).length = sz) (hp : 0 < sz) (h : Rd W (.slice A n c) sz enc l) (h0 : 0 < l.length) : ∃ B o, A = some ⟨B, o, none⟩ ∧ ∀ (j : Nat) (u : Value), (l.flatMap enc)[j]? = some u → W.cell? ⟨B, o + j, none⟩ = some u := by
  obtain ⟨B, o, rfl, hat⟩ := h.at h0
  refine ⟨B, o, rfl, fun j u hj => ?_⟩
  have hjl : j < l.length * sz := by
    rw [← flat_len hs l]
    exact (List.getElem?_eq_some_iff.1 hj).1
  have hi : j / sz < l.length := Nat.div_lt_of_lt_mul (by rw [Nat.mul_comm]; exact hjl)
  have hd : j / sz * sz + j % sz = j := by rw [Nat.mul_comm]; exact Nat.div_add_mod j sz
  have hjm : j % sz < (enc l[j / sz]).length := by rw [hs]; exact Nat.mod_lt _ hp
  have h5 := flat_get hs l (j / sz) l[j / sz] (by simp [hi]) (j % sz) (enc l[j / sz])[j % sz] (by simp [hjm])
  rw [hd, hj] at h5
  have h6 := hat.cell (j / sz) l[j / sz] (by simp [hi]) (j % sz) u (by rw [Option.some.inj h5]; simp [hjm])
  rw [Nat.add_assoc, hd] at h6
  exact h6
theorem Rd.atE {α : Type} {W : World} {A : Option Addr} {g o n c sz : Nat} {enc : α → List Value} {l : List α} (h : Rd W (.slice A n c) sz enc l) (hA : A = some ⟨g, o, none⟩) (hl : 0 < l.length) : RdAt W g o sz enc l := by
  subst hA
  exact h.atG hl
/-- append to a slice without room that is only read. -/
theorem append_full {α : Type} {W : World} {t ty e : TypeId} {sz bytes m c : Nat} {A : Option Addr} {enc : α → List Value} {l : List α} {news : List Value} {ad : Addr} (ht : P.underlying t = some (.slice e)) (hi : infB P e sz bytes = true) (hs : ∀ x, (enc x).length = sz) (h : Rd W (.slice A l.length l.length) sz enc l) (hl : news.length = m * sz) (hnews : ∀ (j : Nat) (u : Value), news[j]? = some u → W.cell? (ad.add j) = some u) (h1 : ∀ u ∈ news, cellV u = true) (hm : 0 < m) (hb : (l.length + m) * bytes ≤ 140737488355328) (hn : l.length + m ≤ maxLen) :
    ∃ v' W', (Builtin.append_ #[t, t] ty #[.slice A l.length l.length, .slice (some ad) m c]).run P W = .ok v' W' ∧ ownR W' e sz v' (l.length + m) (l.flatMap enc ++ news) ∧ (∀ k, ownF v' k → W.heap.size ≤ k) ∧ Below W.heap.size W W' := by
  obtain ⟨i, z, h2, h3, h4, h5, h6, h7⟩ := infB_spec hi
  have h1' : ∀ u ∈ news, u.oneCell' = true := fun u hu => by
    have := h1 u hu
    cases u <;> first | rfl | cases this
  rcases Nat.eq_zero_or_pos l.length with h0 | hp
  · have : l = [] := List.length_eq_zero_iff.1 h0
    subst this
    obtain ⟨v', W', r1, r2, r3, r4, r5, r6, r7, r8⟩ := append_own (c := c) (ty := ty) (ad := ad) (news := news) (m := m) ht hi (ownR.nil W e sz) hl hnews h1 hm hb hn
    refine ⟨v', W', ?_, r2, fun k hk => ?_, ⟨r4, r5, r6, r7, fun k hk => r8 k hk fun hf => ?_⟩⟩
    · cases A with
      | none => exact r1
      | some b =>
        rw [List.length_nil, append_z ht h2 ⟨_, rfl⟩ hm (by simpa using hn) (by rw [h5]; simpa using hb)]
        exact r1
    · rcases r3 k hk with hf | hf
      · obtain ⟨_, _, e0, _⟩ := hf
        cases e0
      · exact hf
    · obtain ⟨_, _, e0, _⟩ := hf
      cases e0
  · obtain ⟨B, o, rfl, hc⟩ := h.flat hs h7 hp
    obtain ⟨v', W', r1, r2, r3⟩ := run_append_arg_grows (P := P) W t ty e i z sz bytes ht h2 h3 h4 h5 h6 h7 ⟨B, o, none⟩ l.length l.length (l.flatMap enc) (flat_len hs l) (fun j u hj => by rw [Addr.add_at]; exact hc j u hj) ad m c news hl hnews (by omega) hn hb
    refine ⟨v', W', r1, ownR.of r2, fun k hk => ?_, ⟨r3.os, r3.tape, r3.output, r3.size, fun k hk => r3.block k hk (by simp)⟩⟩
    obtain ⟨n', c', rfl, _⟩ := hk
    rcases r2.2 with ⟨e0, _⟩ | ⟨g, cap, cur, e0, hg, _⟩
    · cases e0
    · cases e0
      exact hg
/-- append(v, ..) to a slice without room; what is put behind it is the front of a known block. -/
theorem dapg {α : Type} {s : DS} (b j : Nat) {e sz m c g T : Nat} {A : Option Addr} {enc : α → List Value} {l : List α} {cs : List Value} (bytes : Nat) (hy : ∀ W, HoldR W F → Rd W (.slice A l.length l.length) sz enc l) (hs : ∀ x, (enc x).length = sz) (hb : (l.length + m) * bytes ≤ 140737488355328) (hm : l.length + m ≤ maxLen) (n' : Nat) (xs' : List Value) (e1 : l.length + m = n') (e2 : l.flatMap enc ++ cs.take (m * sz) = xs') (hn : ∀ (A : Option Addr) (k : Nat), DG P K (rowA e sz (.slice A n' k) n' xs' :: F) (deffS s b (.slice A n' k) s.L))
    (h : dapAt P s b = some (e, .slice A l.length l.length, ⟨g, 0, none⟩, m, c) := by kernel_rfl) (hL : s.L[j]? = some (g, T, cs) := by kernel_rfl) (hinf : infB P e sz bytes = true := by kernel_rfl) (h0 : (Nat.blt 0 m && Nat.ble (m * sz) cs.length && (cs.take (m * sz)).all cellV) = true := by kernel_rfl) (hB : deffB P s b = true := by kernel_rfl) : DG P K F s := by
  subst e1 e2
  unfold dapAt at h
  split at h
  · rename_i o ho
    simp only [Bool.and_eq_true] at h0
    obtain ⟨⟨h1, h2⟩, h3⟩ := h0
    have hle : m * sz ≤ cs.length := Nat.le_of_ble_eq_true h2
    obtain ⟨t, ty, hu, hr⟩ := apX_run (ρ := evl s.l) h rfl
    refine deff (X := Option Addr × Nat) (v := fun x => .slice x.1 (l.length + m) x.2) (L' := fun _ => s.L) (F' := fun x => rowA e sz (.slice x.1 (l.length + m) x.2) (l.length + m) (l.flatMap enc ++ cs.take (m * sz)) :: F) b ho hB (fun W hW => ?_) fun x => hn x.1 x.2
    have hblk := Hold.getL hW hL
    obtain ⟨v', W', r1, r2, r3, r4⟩ := append_full (c := c) (ty := ty) (ad := ⟨g, 0, none⟩) (news := cs.take (m * sz)) (m := m) hu hinf hs (hy W (Hold.ff hW)) (by rw [List.length_take]; omega) (fun k u hk => by
      rw [Addr.add_at, Nat.zero_add]
      have hk' : cs[k]? = some u := by
        rw [List.getElem?_take] at hk
        split at hk
        · exact hk
        · cases hk
      simp only [World.cell?, hblk]
      simpa using hk') (fun u hu => List.all_eq_true.1 h3 u hu) (Nat.le_of_ble_eq_true h1) hb hm
    obtain ⟨_, A', k, rfl, _⟩ := id r2
    refine ⟨(A', k), W', hr W _ W' r1, ?_⟩
    have h9 : HoldR W' (rowA e sz (.slice A' (l.length + m) k) (l.length + m) (l.flatMap enc ++ cs.take (m * sz)) :: (s.L.map blkA ++ F)) := HoldR.cons hW r4 r2 r3
    exact h9.perm List.perm_middle.symm
  · cases h
end
section
variable {P : Program} {Q : Exit → Act → World → Prop} {F : List Asrt}
end
section
variable {P : Program} {Q : Exit → Act → World → Prop} {K : Exit → Act → World → Prop} {F : List Asrt}
def dputL (s : DS) (j : Nat) (v : Value) (L : List Blk) : DS := ⟨s.ops, j :: s.kn, s.pd.filter (fun b => !waitsT s.ops s.ops.size j b), s.al, setd s.l ((s.ops[j]?).bind (·.dst)) v, L⟩
end
section
variable {P : Program} {Q : Exit → Act → World → Prop} {K : Exit → Act → World → Prop} {F : List Asrt}
end
section
variable {P : Program} {K : Exit → Act → World → Prop} {F : List Asrt}
end
section
variable {P : Program} {K : Exit → Act → World → Prop} {F : List Asrt}
end
section
variable {P : Program} {Q : Exit → Act → World → Prop} {F : List Asrt}
theorem run_append_zeros (W : World) (t u ty e : TypeId) (k : IntKind) (i : TypeInfo) (z : Value) (ht : P.underlying t = some (.slice e)) (hu : P.underlying u = some (.int k)) (hi : P.info? e = some i) (hz : i.zero = some z) (n : Nat) (kk : IntKind) (h0 : 0 < n) (hs : 0 < i.size) (h63 : (n : Int) ≤ 9223372036854775807) (h48 : n * i.bytes ≤ 281474976710656) :
    (Builtin.append_ #[t, u] ty #[.slice none 0 0, .int kk (n : Int)]).run P W = .ok (.slice (some ⟨W.heap.size, 0, none⟩) n (grownCap W n 0 e)) (W.drew.alloc (.cells (Builtin.zeroCells z.cells n ++ Builtin.zeroCells z.cells (grownCap W n 0 e - n)) e)) := by
  have hn : n ≠ 0 := by omega
  have hw : IntKind.i64.wrap (n : Int) = (n : Int) := by rw [IntKind.wrap_i64]; omega
  have h63' : ¬ (9223372036854775807 < (n : Int)) := by omega
  have h48' : ¬ (281474976710656 < Builtin.nextslicecap n 0 * i.bytes) := by rw [nextslicecap_zero h0]; omega
  have h48'' : ¬ (281474976710656 < (n : Int) * (i.bytes : Int)) := by
    have h9 : ((n * i.bytes : Nat) : Int) ≤ 281474976710656 := by omega
    rw [Int.natCast_mul] at h9
    omega
  have hneg : ¬ ((n : Int) < 0) := by omega
  have hs' : i.size ≠ 0 := by omega
  have hns : n * i.size ≠ 0 := Nat.mul_ne_zero hn hs'
  simp [Builtin.append_, run_underlying ht, run_underlying hu, sizeOf, typeInfo, zeroValue, hi, hz, asInt, asIntOf, hw, hneg, h48'', hn, hs', h63', h48', Question.forced, run_firstCells_none, newRow, grownCap]
  intro h9
  exact absurd h9 hns
def apzAt (P : Program) (s : St) : Option (TypeId × Int × IntKind × Nat × Nat) := match opAt s with
  | none => none
  | some o => match o.op with
    | .call { callee := .builtin .append, args := args, argTypes := tys } => match args.toList, tys.toList with
      | [a1, a2], [t, u] => match P.underlying t, P.underlying u, evl s.l a1, evl s.l a2 with
        | some (.slice e), some (.int _), .slice none 0 0, .int kk x => match P.info? e with
          | some i => match i.zero with
            | some _ => some (e, x, kk, i.size, i.bytes)
            | none => none
          | none => none
        | _, _, _, _ => none
      | _, _ => none
    | _ => none
/-- append([]T(nil), make([]T, n)...), of which the front is forgotten: room for n. -/
theorem apz {s : St} (n : Nat) {e : TypeId} {x : Int} {kk : IntKind} {sz bytes : Nat} (hx : x = (n : Int)) (h0 : 0 < n) (hm : n ≤ maxLen) (hb : n * bytes ≤ 281474976710656) (hs : 0 < sz) (hn : ∀ g c, n ≤ c → Go P Q (rowA e sz (.slice (some ⟨g, 0, none⟩) 0 c) 0 [] :: F) (adv (nm s) (.slice (some ⟨g, 0, none⟩) n c)))
    (h : apzAt P (nm s) = some (e, x, kk, sz, bytes) := by kernel_rfl) (hinf : infB P e sz bytes = true := by kernel_rfl) : Go P Q F s := by
  subst hx
  refine norm_sound 400 ?_
  unfold apzAt at h
  split at h
  · cases h
  · rename_i o ho
    split at h
    · rename_i args tys hop
      split at h
      · rename_i a1 a2 t u ha htt
        split at h
        · rename_i e' k' kk' x' hu hu2 he1 he2
          split at h
          · rename_i i hi
            split at h
            · rename_i z hz
              cases h
              obtain ⟨all, r, fs, hfs, hw, hadv⟩ := opAt_spec ho
              intro W hW
              rw [hfs]
              refine wpList_step fun K hK => ?_
              rw [if_pos ((wantd_eq all _ o).trans hw)]
              unfold Oper.wp
              have e1 : args = #[a1, a2] := by
                apply Array.toList_inj.1
                simpa using ha
              have e2 : tys = #[t, u] := by
                apply Array.toList_inj.1
                simpa using htt
              have hm' : (n : Int) ≤ 9223372036854775807 := by
                simp only [maxLen] at hm
                omega
              have hr := run_append_zeros (P := P) W t u o.type e k' i z hu hu2 hi hz n kk h0 hs hm' hb
              have hx : (execOp (evl (nm s).l) o).run P W = .ok (.value (.slice (some ⟨W.heap.size, 0, none⟩) n (grownCap W n 0 e))) (W.drew.alloc (.cells (Builtin.zeroCells z.cells n ++ Builtin.zeroCells z.cells (grownCap W n 0 e - n)) e)) := by
                subst e1 e2
                unfold execOp
                simp only [hop, resolve, invoke, builtin, Sem.run_bind, Sem.run_pure, Result.andThen_ok, List.map_toArray, List.map_cons, List.map_nil, he1, he2, hr]
              rw [evl_eq, hx, Oper.upon_value, put_eq]
              refine hK _ _ ?_
              have hge := grownCap_ge W n 0 e
              have hcm := grownCap_le_maxLen W n 0 e hm
              have h2 := hn W.heap.size (grownCap W n 0 e) hge (W.drew.alloc (.cells (Builtin.zeroCells z.cells n ++ Builtin.zeroCells z.cells (grownCap W n 0 e - n)) e))
              rw [hadv] at h2
              refine h2 ?_
              obtain ⟨i', z', g1, g2, g3, g4, g5, g6⟩ := infB_spec hinf
              rw [hi] at g1
              cases g1
              rw [hz] at g2
              cases g2
              have h3 : HoldR (W.drew.alloc (.cells (Builtin.zeroCells z.cells n ++ Builtin.zeroCells z.cells (grownCap W n 0 e - n)) e)) (rowA e i.size (.slice (some ⟨W.heap.size, 0, none⟩) 0 (grownCap W n 0 e)) 0 [] :: ((nm s).L.map blkA ++ F)) := by
                refine HoldR.cons hW (((Below.refl _ W).drew).alloc (Nat.le_refl _) _) ⟨by simp, _, _, rfl, Nat.zero_le _, .inr ⟨W.heap.size, _, rfl, heap_alloc_new W.drew _, hcm, ?_, by simp⟩⟩ fun k hk => ?_
                · have h9 : z.cells.size = i.size := by first | exact g5 | exact g6 | exact g4 | exact g3 | omega
                  simp only [Array.size_append, size_zeroCells, h9, ← Nat.add_mul]
                  congr 1
                  omega
                · obtain ⟨n9, c9, e9, _⟩ := hk
                  cases e9
                  exact Nat.le_refl _
              exact h3.perm List.perm_middle.symm
            · cases h
          · cases h
        · cases h
      · cases h
    · cases h
end
/-- What a mask keeps of a list. -/
def msk {α : Type} : List Bool → List α → List α
  | true :: m, x :: l => x :: msk m l
  | false :: m, _ :: l => msk m l
  | _, _ => []
theorem msk_sub {α : Type} : ∀ (m : List Bool) (l : List α), List.Sublist (msk m l) l
  | [], [] => .slnil
  | [], x :: l => List.nil_sublist _
  | true :: m, x :: l => .cons_cons x (msk_sub m l)
  | false :: m, x :: l => .cons x (msk_sub m l)
  | true :: m, [] => .slnil
  | false :: m, [] => .slnil
section
variable {P : Program} {Q : Exit → Act → World → Prop} {K : Exit → Act → World → Prop} {F : List Asrt}
theorem crm {s : St} {fn : Func} {R : Ending → World → Prop} {Q' : Exit → Act → World → Prop} {g : Value → List Fr} {k : Value → List Value} (hR : ∀ (v : Value) (L : List Blk) (F' : List Asrt), Go P Q' F' ⟨g v, k v, L⟩ → ∀ W, HoldR W (L.map blkA ++ F') → R (.returned v) W) (v : Value) (js : List (Nat × Nat)) (E : List (Nat × Nat)) (m : List Bool) (hn : Go P Q' F ⟨g v, k v, msk m (nm s).L⟩) (h : resAt P fn (rl js) (nm s) = some (v, dup E) := by kernel_rfl) : Go P (bodyPost P fn R) F s :=
  rtL v js E (nm s).L (fun W hW => hR v _ F hn W (HoldR.sub hW (List.Sublist.append ((msk_sub m _).map blkA) (List.Sublist.refl _)))) h rfl
end
section
variable {P : Program} {Q : Exit → Act → World → Prop} {K : Exit → Act → World → Prop} {F : List Asrt}
def dclB (P : Program) (s : DS) (j : Nat) (pl : List Nat) : Bool := s.al.isEmpty && dcB s j && s.pd.all (fun b => waitsT s.ops s.ops.size j b || pureB P s b || pl.contains b)
/-- What was read ahead is still there. -/
def RC (P : Program) (s : DS) (L : List Blk) (b : Nat) : Prop := ∃ (o : Oper) (d : Tmp) (v : Value) (js js' : List Nat) (E : List (Nat × Nat)), s.ops[b]? = some o ∧ o.dst = some d ∧ s.l[d]? = some v ∧ symL P (execOp (evl s.l) o) js L = some (.value v, js', dup E)
/-- A call within a drawn region that is walked in place. -/
theorem dcl {s : DS} (j : Nat) (pl : List Nat) {f : FuncId} {args : List Value} {fn : Func} {c : Code} (hf : P.funcs[f]? = some fn)
    (hn : ∀ R : Ending → World → Prop, (∀ (v : Value) (L : List Blk) (F' : List Asrt), AllB (pl.map (RC P s L)) → DG P K F' (dputL s j v L) → ∀ W, HoldR W (L.map blkA ++ F') → R (.returned v) W) → Go P (bodyPost P fn R) F ⟨[.code c], ini args fn.ntmps, s.L⟩)
    (hb : fn.body = some c := by kernel_rfl) (h : dcallAt P s j = some (f, args.toArray) := by kernel_rfl) (hB : dclB P s j pl = true := by kernel_rfl) : DG P K F s := by
  intro hw
  simp only [dclB, Bool.and_eq_true] at hB
  obtain ⟨⟨hal, hB⟩, hpd⟩ := hB
  obtain ⟨o, ho, hjk, hcl, hda, hlk⟩ := dcB_spec hB
  have hal' : s.al = [] := by simpa using hal
  refine ga_op hw ho hjk hcl hda fun ls a W A hp hr hdl hev hwt => ?_
  have hA : A = [] := by
    have := hp.als
    rw [hal'] at this
    cases this
    rfl
  subst hA
  unfold dcallAt at h
  rw [ho] at h
  simp only at h
  split at h
  · rename_i hw1
    split at h
    · rename_i f' args' hs
      cases h
      refine wpOp_step ho fun K' hK => ?_
      rw [if_pos (hwt.trans hw1)]
      unfold Oper.wp
      rw [hev, semP_run _ _ W hs, Oper.upon_enter]
      have h1 := hn (fun e W' => ∃ v, e = .returned v ∧ wpA P K s.ops (ls.setIfInBounds j true) (a.put o.dst v) W') (fun v L F' hrc hg W' hW' => ⟨v, rfl, by
        have hdp : dputL s j v L = ⟨s.ops, j :: s.kn, s.pd.filter (fun b => !waitsT s.ops s.ops.size j b), s.al, setd s.l o.dst v, L⟩ := by
          unfold dputL
          rw [ho]
          rfl
        rw [hdp] at hg
        refine (hg ?_) _ _ W' [] (pre_next hw hp ho hjk hr v (fun b hb hnb => ?_) hW')
        · refine dw_next hw ho hjk hlk v (fun b hb => (List.mem_filter.1 hb).1) fun b hb ob v hob hC => ?_
          obtain ⟨hbp, hnw⟩ := List.mem_filter.1 hb
          have h3 := List.all_eq_true.1 hpd b hbp
          simp only [Bool.or_eq_true] at h3
          rcases h3 with (h3 | h3) | h3
          · simp [h3] at hnw
          · unfold pureB at h3
            rw [hob] at h3
            simp only at h3
            split at h3
            · rename_i hwf
              rcases hC with ⟨h4, _⟩ | h4
              · rw [hwf] at h4; cases h4
              · exact .inr h4
            · rename_i hwt'
              split at h3
              · rename_i v2 hs2
                rcases hC with ⟨h4, h5⟩ | ⟨h4, _⟩
                · have h6 := h5 W hp.hold
                  rw [semP_run _ _ W hs2] at h6
                  cases h6
                  exact .inl ⟨h4, fun W2 _ => semP_run _ _ W2 hs2⟩
                · rw [hwt'] at h4; cases h4
              · cases h3
          · rcases hC with ⟨h4, h5⟩ | h4
            · obtain ⟨o9, d9, v9, js, js', E, g1, g2, g3, g4⟩ := hrc.spec (RC P s L b) (List.mem_map.2 ⟨b, by simpa using h3, rfl⟩)
              rw [hob] at g1
              cases g1
              obtain ⟨ob', vb, db, k1, k2, k3, k4, k5⟩ := hw.pd b hbp
              rw [hob] at k1
              cases k1
              have hd : db = d9 := by
                rw [k2] at g2
                exact Option.some.inj g2
              subst hd
              rw [g3] at k3
              cases k3
              have hv : v = v9 := by
                have e1 := h5 W hp.hold
                rcases k4 with ⟨_, k6⟩ | ⟨k6, _⟩
                · have e2 := k6 W hp.hold
                  rw [e1] at e2
                  cases e2
                  rfl
                · rw [h4] at k6
                  cases k6
              subst hv
              exact .inl ⟨h4, fun W2 hW2 => symL_run _ js L W2 _ js' (dup E) g4 (dup_same E) hW2⟩
            · exact .inr h4
        · have h3 : waitsT s.ops s.ops.size j b = true := by
            cases h4 : waitsT s.ops s.ops.size j b with
            | true => rfl
            | false => exact absurd (List.mem_filter.2 ⟨hb, by simp [h4]⟩) hnb
          exact waitsT_spec hp.shut _ _ _ h3 fun o' ho' => by
            rw [ho] at ho'
            cases ho'
            exact hdl⟩) W hp.hold
      have h2 : Calls P f args.toArray W (fun e W' => ∃ v, e = .returned v ∧ wpA P K s.ops (ls.setIfInBounds j true) (a.put o.dst v) W') := by
        refine calls_of_wp hf hb ?_
        have e : args.toArray ++ Array.replicate (fn.ntmps - args.toArray.size) undef = (ini args fn.ntmps).toArray := by
          simp [ini]
        rw [e]
        exact wp_mono h1 fun e a w' q => q
      refine h2.mono fun e W' hR => ?_
      obtain ⟨v, rfl, hG⟩ := hR
      exact hK _ _ hG
    · cases h
  · cases h
def rcB (P : Program) (s : DS) (L : List Blk) (b : Nat) (js : List Nat) : Option (Value × Value × List (Nat × Nat)) := match s.ops[b]? with
  | none => none
  | some o => match o.dst with
    | none => none
    | some d => match s.l[d]? with
      | none => none
      | some v => match symL P (execOp (evl s.l) o) js L with
        | some (.value v', _, E) => some (v', v, E)
        | _ => none
theorem RC.of {s : DS} {L : List Blk} {b : Nat} (v : Value) (js : List (Nat × Nat)) (E : List (Nat × Nat)) (h : rcB P s L b (rl js) = some (v, v, dup E) := by kernel_rfl) : RC P s L b := by
  unfold rcB at h
  split at h
  · cases h
  · rename_i o ho
    split at h
    · cases h
    · rename_i d hd
      split at h
      · cases h
      · rename_i v2 hv
        split at h
        · rename_i v3 js' E' hs
          cases h
          exact ⟨o, d, v, rl js, js', E, ho, hd, hv, hs⟩
        · cases h
theorem dclr {s : St} {fn : Func} {R : Ending → World → Prop} {D : Value → List Blk → DS} {C : List Blk → Prop} (hR : ∀ (v : Value) (L : List Blk) (F' : List Asrt), C L → DG P K F' (D v L) → ∀ W, HoldR W (L.map blkA ++ F') → R (.returned v) W) (v : Value) (js : List (Nat × Nat)) (E : List (Nat × Nat)) (m : List Bool) (hC : C (msk m (nm s).L)) (hn : DG P K F (D v (msk m (nm s).L))) (h : resAt P fn (rl js) (nm s) = some (v, dup E) := by kernel_rfl) : Go P (bodyPost P fn R) F s :=
  rtL v js E (nm s).L (fun W hW => hR v _ F hC hn W (HoldR.sub hW (List.Sublist.append ((msk_sub m _).map blkA) (List.Sublist.refl _)))) h rfl
end
section
variable {P : Program} {Q : Exit → Act → World → Prop} {F : List Asrt}
/-- A row's front alone. -/
theorem rsh {s : St} (i : Nat) {e sz n c : Nat} {A : Option Addr} {xs : List Value} (hF : F[i]? = some (rowA e sz (.slice A n c) n xs)) (m : Nat) (hm : m ≤ n) (xs' : List Value) (hx : xs.take (m * sz) = xs') (hn : Go P Q (F.set i (rowA e sz (.slice A m c) m xs')) s) : Go P Q F s := by
  intro W hW
  refine hn W (Hold.setF hW hF rfl rfl rfl (Nat.le_refl _) (fun _ _ _ => rfl) ?_ fun k hk => .inl ?_)
  · obtain ⟨h1, A', c', e0, hc, hA⟩ : ownR W e sz (.slice A n c) n xs := hW.f i hF
    cases e0
    refine ⟨?_, A, c, rfl, Nat.le_trans hm hc, hA.imp id fun ⟨g, cur, h2, h3, h4, h5, h6⟩ => ⟨g, cur, h2, h3, h4, h5, ?_⟩⟩
    · rw [← hx, List.length_take, h1]
      exact Nat.min_eq_left (Nat.mul_le_mul_right _ hm)
    · rw [← hx, ← h6, List.take_take, Nat.min_eq_left (Nat.mul_le_mul_right _ hm)]
  · obtain ⟨n', c', e0, hp⟩ := hk
    cases e0
    exact ⟨n, c, rfl, hp⟩
theorem flat_take {α : Type} {enc : α → List Value} {sz : Nat} (hs : ∀ x, (enc x).length = sz) : ∀ (l : List α) (i : Nat), (l.flatMap enc).take (i * sz) = (l.take i).flatMap enc
  | [], i => by simp
  | x :: l, 0 => by simp
  | x :: l, i + 1 => by
    rw [List.flatMap_cons, List.take_succ_cons, List.flatMap_cons, Nat.add_mul, Nat.one_mul, Nat.add_comm, ← hs x, List.take_length_add_append, hs x, flat_take hs l i]
theorem flat_drop {α : Type} {enc : α → List Value} {sz : Nat} (hs : ∀ x, (enc x).length = sz) : ∀ (l : List α) (i : Nat), (l.flatMap enc).drop (i * sz) = (l.drop i).flatMap enc
  | [], i => by simp
  | x :: l, 0 => by simp
  | x :: l, i + 1 => by
    rw [List.flatMap_cons, List.drop_succ_cons, Nat.add_mul, Nat.one_mul, Nat.add_comm, ← hs x, List.drop_length_add_append, hs x, flat_drop hs l i]
theorem flat_set {α : Type} {enc : α → List Value} {sz : Nat} (hs : ∀ x, (enc x).length = sz) (l : List α) (i : Nat) (x : α) (hi : i < l.length) : (l.flatMap enc).take (i * sz) ++ enc x ++ (l.flatMap enc).drop (i * sz + sz) = (l.set i x).flatMap enc := by
  have e : i * sz + sz = (i + 1) * sz := by rw [Nat.add_mul, Nat.one_mul]
  rw [e, flat_take hs, flat_drop hs, List.set_eq_take_append_cons_drop, if_pos hi, List.flatMap_append, List.flatMap_cons, List.append_assoc]
theorem own_rdn {α : Type} {W : World} {e sz n : Nat} {v : Value} {enc : α → List Value} {l : List α} (hs : ∀ x, (enc x).length = sz) (hn : l.length = n) (h : ownR W e sz v n (l.flatMap enc)) : Rd W v sz enc l := by
  subst hn
  exact own_rd hs h
end
section
variable {P : Program} {Q : Exit → Act → World → Prop} {F : List Asrt}
end
/-! ### Maps -/
section
variable {P : Program} {Q : Exit → Act → World → Prop} {F : List Asrt}
end
section
variable {P : Program} {Q : Exit → Act → World → Prop} {K : Exit → Act → World → Prop} {F : List Asrt}
def deffBp (P : Program) (s : DS) (j : Nat) (pl : List Nat) : Bool := match s.ops[j]? with
  | none => false
  | some o => wantd s.ops s.l o && s.al.isEmpty && dcB s j && s.pd.all (fun b => waitsT s.ops s.ops.size j b || pureB P s b || pl.contains b)
theorem deffK {s : DS} (j : Nat) (pl : List Nat) {X : Type} {L' : X → List Blk} {F' : X → List Asrt} {o : Oper} (ho : s.ops[j]? = some o) (hB : deffBp P s j pl = true) (hv : ∀ W, Hold W s.L F → ∃ x W', (execOp (evl s.l) o).run P W = .ok .skip W' ∧ Hold W' (L' x) (F' x)) (hrc : ∀ x, AllB (pl.map (RC P s (L' x)))) (hn : ∀ x, DG P K (F' x) (deffS s j undef (L' x))) : DG P K F s := by
  intro hw
  unfold deffBp at hB
  rw [ho] at hB
  simp only [Bool.and_eq_true] at hB
  obtain ⟨⟨⟨hw1, hal⟩, hB⟩, hpd⟩ := hB
  obtain ⟨o', ho', hjk, hcl, hda, hlk⟩ := dcB_spec hB
  rw [ho] at ho'
  cases ho'
  have hal' : s.al = [] := by simpa using hal
  refine ga_op hw ho hjk hcl hda fun ls a W A hp hr hdl hev hwt => ?_
  have hA : A = [] := by
    have := hp.als
    rw [hal'] at this
    cases this
    rfl
  subst hA
  refine wpOp_step ho fun K' hK => ?_
  rw [if_pos (hwt.trans hw1)]
  unfold Oper.wp
  obtain ⟨x, W', h1, h2⟩ := hv W hp.hold
  rw [hev, h1, Oper.upon_skip]
  have hG := hn x
  unfold deffS at hG
  rw [ho, Option.bind_some] at hG
  refine hK _ _ ((hG ?_) _ _ W' [] (pre_next hw hp ho hjk hr undef (fun b hb hnb => ?_) h2))
  · refine dw_next hw ho hjk hlk undef (fun b hb => (List.mem_filter.1 hb).1) fun b hb ob u hob hC => ?_
    obtain ⟨hbp, hnw⟩ := List.mem_filter.1 hb
    have h3 := List.all_eq_true.1 hpd b hbp
    simp only [Bool.or_eq_true] at h3
    rcases h3 with (h3 | h3) | h3
    · simp [h3] at hnw
    · unfold pureB at h3
      rw [hob] at h3
      simp only at h3
      split at h3
      · rename_i hwf
        rcases hC with ⟨h4, _⟩ | h4
        · rw [hwf] at h4; cases h4
        · exact .inr h4
      · rename_i hwt'
        split at h3
        · rename_i v2 hs2
          rcases hC with ⟨h4, h5⟩ | ⟨h4, _⟩
          · have h6 := h5 W hp.hold
            rw [semP_run _ _ W hs2] at h6
            cases h6
            exact .inl ⟨h4, fun W2 _ => semP_run _ _ W2 hs2⟩
          · rw [hwt'] at h4; cases h4
        · cases h3
    · rcases hC with ⟨h4, h5⟩ | h4
      · obtain ⟨o9, d9, v9, js, js', E, g1, g2, g3, g4⟩ := (hrc x).spec (RC P s (L' x) b) (List.mem_map.2 ⟨b, by simpa using h3, rfl⟩)
        rw [hob] at g1
        cases g1
        obtain ⟨ob', vb, db, k1, k2, k3, k4, k5⟩ := hw.pd b hbp
        rw [hob] at k1
        cases k1
        have hd : db = d9 := by
          rw [k2] at g2
          exact Option.some.inj g2
        subst hd
        rw [g3] at k3
        cases k3
        have hvv : u = v9 := by
          have e1 := h5 W hp.hold
          rcases k4 with ⟨_, k6⟩ | ⟨k6, _⟩
          · have e2 := k6 W hp.hold
            rw [e1] at e2
            cases e2
            rfl
          · rw [h4] at k6
            cases k6
        subst hvv
        exact .inl ⟨h4, fun W2 hW2 => symL_run _ js (L' x) W2 _ js' (dup E) g4 (dup_same E) hW2⟩
      · exact .inr h4
  · have h3 : waitsT s.ops s.ops.size j b = true := by
      cases h4 : waitsT s.ops s.ops.size j b with
      | true => rfl
      | false => exact absurd (List.mem_filter.2 ⟨hb, by simp [h4]⟩) hnb
    exact waitsT_spec hp.shut _ _ _ h3 fun o' ho' => by
      rw [ho] at ho'
      cases ho'
      exact hdl
end
/-! ### Two numbers of which either may come up first -/
section
variable {P : Program} {Q : Exit → Act → World → Prop} {K : Exit → Act → World → Prop} {F : List Asrt}
def HD (P : Program) (K : Exit → Act → World → Prop) (s : DS) (F : List Asrt) (j : Nat) : Prop := ∀ o, s.ops[j]? = some o → ∀ ls a W A, Pre s F ls a W A → j ∈ Region.ready .any s.ops ls → (∀ i ∈ depsOf o, ls.getD i false = true) → execOp a.eval o = execOp (evl s.l) o → Region.wanted o (yielded s.ops a.tmps) = wantd s.ops s.l o → wpOp P s.ops K j (wpA P K s.ops (ls.setIfInBounds j true)) a W
def clB2 (s : DS) (j1 j2 : Nat) : Bool := (List.range s.ops.size).all fun i => Nat.beq i j1 || Nat.beq i j2 || s.kn.contains i || match s.ops[i]? with
  | none => true
  | some o => (depsOf o).any fun e => !s.kn.contains e
def d2B (s : DS) (j1 j2 : Nat) : Bool := clB2 s j1 j2 && !s.kn.contains j1 && !s.kn.contains j2 && (match s.ops[j1]? with | none => false | some o => (depsOf o).all fun e => !(s.al.map (·.1)).contains e) && (match s.ops[j2]? with | none => false | some o => (depsOf o).all fun e => !(s.al.map (·.1)).contains e)
theorem clB2_spec {s : DS} {j1 j2 : Nat} (h : clB2 s j1 j2 = true) {F : List Asrt} {ls : Array Bool} {a : Act} {W : World} {A : List Blk} (hp : Pre s F ls a W A) {i : Nat} (hi : i ∈ Region.ready .any s.ops ls) (hk : i ∉ s.kn) : i = j1 ∨ i = j2 := by
  obtain ⟨_, o, ho, hall⟩ := mem_ready.1 hi
  have hil := (Array.getElem?_eq_some_iff.1 ho).1
  have h1 := List.all_eq_true.1 h i (List.mem_range.2 hil)
  rw [ho] at h1
  simp only [Bool.or_eq_true] at h1
  rcases h1 with ((h1 | h1) | h1) | h1
  · exact .inl (Nat.eq_of_beq_eq_true h1)
  · exact .inr (Nat.eq_of_beq_eq_true h1)
  · exact absurd (by simpa using h1) hk
  · obtain ⟨e, he, h2⟩ := List.any_eq_true.1 h1
    have := hp.sub e (ready_deps hi ho e he)
    simp [this] at h2
theorem d2 {s : DS} (j1 j2 : Nat) (h1 : DW P F s → HD P K s F j1) (h2 : DW P F s → HD P K s F j2) (hB : d2B s j1 j2 = true := by kernel_rfl) : DG P K F s := by
  intro hw
  simp only [d2B, Bool.and_eq_true, Bool.not_eq_true'] at hB
  obtain ⟨⟨⟨⟨hcl, hk1⟩, hk2⟩, hd1⟩, hd2⟩ := hB
  have key : ∀ (j : Nat), (match s.ops[j]? with | none => false | some o => (depsOf o).all fun e => !(s.al.map (·.1)).contains e) = true → ∃ o, s.ops[j]? = some o ∧ ∀ e ∈ depsOf o, e ∉ s.al.map (·.1) := by
    intro j h
    split at h
    · cases h
    · rename_i o ho
      refine ⟨o, ho, fun e he hm => ?_⟩
      have h5 := List.all_eq_true.1 h e he
      rw [List.contains_iff_mem.2 hm] at h5
      cases h5
  obtain ⟨o1, ho1, ha1⟩ := key j1 hd1
  obtain ⟨o2, ho2, ha2⟩ := key j2 hd2
  refine ga_ind hw fun ls a W A hp => .inr ⟨fun hr => ?_, fun i hi hk => ?_⟩
  · exact absurd (hp.sub j1 (ready_nil hw.ok hp.size hr j1 (Array.getElem?_eq_some_iff.1 ho1).1)) (by simpa using hk1)
  · rcases clB2_spec hcl hp hi hk with rfl | rfl
    · have hlk := agree_looks hw.ok hp.agree ho1 ha1 hi
      exact h1 hw o1 ho1 ls a W A hp hi (ready_deps hi ho1) (eval_looks (fun cs b => Region.noSelect_spec hw.sel i o1 cs b ho1) hlk) (wanted_looks hlk)
    · have hlk := agree_looks hw.ok hp.agree ho2 ha2 hi
      exact h2 hw o2 ho2 ls a W A hp hi (ready_deps hi ho2) (eval_looks (fun cs b => Region.noSelect_spec hw.sel i o2 cs b ho2) hlk) (wanted_looks hlk)
def dcB' (s : DS) (j : Nat) : Bool := match s.ops[j]? with
  | none => false
  | some o => !s.kn.contains j && (depsOf o).all (fun e => !(s.al.map (·.1)).contains e) && match o.dst with
    | none => true
    | some d => s.pd.all fun c => match s.ops[c]? with | none => false | some oc => !(oc.looksAt s.ops).contains d
theorem dcB'_spec {s : DS} {j : Nat} (h : dcB' s j = true) : ∃ o, s.ops[j]? = some o ∧ j ∉ s.kn ∧ (∀ e ∈ depsOf o, e ∉ s.al.map (·.1)) ∧ (∀ d, o.dst = some d → ∀ c ∈ s.pd, ∀ oc, s.ops[c]? = some oc → d ∉ oc.looksAt s.ops) := by
  unfold dcB' at h
  split at h
  · cases h
  · rename_i o ho
    simp only [Bool.and_eq_true, Bool.not_eq_true'] at h
    obtain ⟨⟨h1, h3⟩, h4⟩ := h
    refine ⟨o, ho, by simpa using h1, fun e he hm => ?_, fun d hd c hc oc hoc hm => ?_⟩
    · have h5 := List.all_eq_true.1 h3 e he
      rw [List.contains_iff_mem.2 hm] at h5
      cases h5
    · rw [hd] at h4
      have h5 := List.all_eq_true.1 h4 c hc
      rw [hoc] at h5
      simp only [List.contains_iff_mem.2 hm] at h5
      cases h5
def dclB' (P : Program) (s : DS) (j : Nat) (pl : List Nat) : Bool := s.al.isEmpty && dcB' s j && s.pd.all (fun b => waitsT s.ops s.ops.size j b || pureB P s b || pl.contains b)
def dnB' (s : DS) (j : Nat) : Bool := match s.ops[j]? with
  | none => false
  | some o => wantd s.ops s.l o && s.al.isEmpty && dcB' s j
theorem dclH {s : DS} (j : Nat) (pl : List Nat) {f : FuncId} {args : List Value} {fn : Func} {c : Code} (hf : P.funcs[f]? = some fn)
    (hn : ∀ R : Ending → World → Prop, (∀ (v : Value) (L : List Blk) (F' : List Asrt), AllB (pl.map (RC P s L)) → DG P K F' (dputL s j v L) → ∀ W, HoldR W (L.map blkA ++ F') → R (.returned v) W) → Go P (bodyPost P fn R) F ⟨[.code c], ini args fn.ntmps, s.L⟩)
    (hb : fn.body = some c := by kernel_rfl) (h : dcallAt P s j = some (f, args.toArray) := by kernel_rfl) (hB : dclB' P s j pl = true := by kernel_rfl) : DW P F s → HD P K s F j := by
  intro hw
  simp only [dclB', Bool.and_eq_true] at hB
  obtain ⟨⟨hal, hB⟩, hpd⟩ := hB
  obtain ⟨o, ho, hjk, hda, hlk⟩ := dcB'_spec hB
  have hal' : s.al = [] := by simpa using hal
  intro o'' ho'' ls a W A hp hr hdl hev hwt
  rw [ho] at ho''
  cases ho''
  have hA : A = [] := by
    have := hp.als
    rw [hal'] at this
    cases this
    rfl
  subst hA
  unfold dcallAt at h
  rw [ho] at h
  simp only at h
  split at h
  · rename_i hw1
    split at h
    · rename_i f' args' hs
      cases h
      refine wpOp_step ho fun K' hK => ?_
      rw [if_pos (hwt.trans hw1)]
      unfold Oper.wp
      rw [hev, semP_run _ _ W hs, Oper.upon_enter]
      have h1 := hn (fun e W' => ∃ v, e = .returned v ∧ wpA P K s.ops (ls.setIfInBounds j true) (a.put o.dst v) W') (fun v L F' hrc hg W' hW' => ⟨v, rfl, by
        have hdp : dputL s j v L = ⟨s.ops, j :: s.kn, s.pd.filter (fun b => !waitsT s.ops s.ops.size j b), s.al, setd s.l o.dst v, L⟩ := by
          unfold dputL
          rw [ho]
          rfl
        rw [hdp] at hg
        refine (hg ?_) _ _ W' [] (pre_next hw hp ho hjk hr v (fun b hb hnb => ?_) hW')
        · refine dw_next hw ho hjk hlk v (fun b hb => (List.mem_filter.1 hb).1) fun b hb ob v hob hC => ?_
          obtain ⟨hbp, hnw⟩ := List.mem_filter.1 hb
          have h3 := List.all_eq_true.1 hpd b hbp
          simp only [Bool.or_eq_true] at h3
          rcases h3 with (h3 | h3) | h3
          · simp [h3] at hnw
          · unfold pureB at h3
            rw [hob] at h3
            simp only at h3
            split at h3
            · rename_i hwf
              rcases hC with ⟨h4, _⟩ | h4
              · rw [hwf] at h4; cases h4
              · exact .inr h4
            · rename_i hwt'
              split at h3
              · rename_i v2 hs2
                rcases hC with ⟨h4, h5⟩ | ⟨h4, _⟩
                · have h6 := h5 W hp.hold
                  rw [semP_run _ _ W hs2] at h6
                  cases h6
                  exact .inl ⟨h4, fun W2 _ => semP_run _ _ W2 hs2⟩
                · rw [hwt'] at h4; cases h4
              · cases h3
          · rcases hC with ⟨h4, h5⟩ | h4
            · obtain ⟨o9, d9, v9, js, js', E, g1, g2, g3, g4⟩ := hrc.spec (RC P s L b) (List.mem_map.2 ⟨b, by simpa using h3, rfl⟩)
              rw [hob] at g1
              cases g1
              obtain ⟨ob', vb, db, k1, k2, k3, k4, k5⟩ := hw.pd b hbp
              rw [hob] at k1
              cases k1
              have hd : db = d9 := by
                rw [k2] at g2
                exact Option.some.inj g2
              subst hd
              rw [g3] at k3
              cases k3
              have hv : v = v9 := by
                have e1 := h5 W hp.hold
                rcases k4 with ⟨_, k6⟩ | ⟨k6, _⟩
                · have e2 := k6 W hp.hold
                  rw [e1] at e2
                  cases e2
                  rfl
                · rw [h4] at k6
                  cases k6
              subst hv
              exact .inl ⟨h4, fun W2 hW2 => symL_run _ js L W2 _ js' (dup E) g4 (dup_same E) hW2⟩
            · exact .inr h4
        · have h3 : waitsT s.ops s.ops.size j b = true := by
            cases h4 : waitsT s.ops s.ops.size j b with
            | true => rfl
            | false => exact absurd (List.mem_filter.2 ⟨hb, by simp [h4]⟩) hnb
          exact waitsT_spec hp.shut _ _ _ h3 fun o' ho' => by
            rw [ho] at ho'
            cases ho'
            exact hdl⟩) W hp.hold
      have h2 : Calls P f args.toArray W (fun e W' => ∃ v, e = .returned v ∧ wpA P K s.ops (ls.setIfInBounds j true) (a.put o.dst v) W') := by
        refine calls_of_wp hf hb ?_
        have e : args.toArray ++ Array.replicate (fn.ntmps - args.toArray.size) undef = (ini args fn.ntmps).toArray := by
          simp [ini]
        rw [e]
        exact wp_mono h1 fun e a w' q => q
      refine h2.mono fun e W' hR => ?_
      obtain ⟨v, rfl, hG⟩ := hR
      exact hK _ _ hG
    · cases h
  · cases h
theorem dnH {s : DS} (j : Nat) {v : Nat → Value} {b : Nat → Blk} (h : ∀ g (L : List Blk), ((s.ops[j]?).map fun o => sym P g (execOp (evl s.l) o) true [] L) = some (some (.value (v g), b g :: L, [], []))) (hn : ∀ g, DG P K F (dnS s j (v g) (b g))) (hB : dnB' s j = true := by kernel_rfl) : DW P F s → HD P K s F j := by
  intro hw
  unfold dnB' at hB
  split at hB
  · cases hB
  · rename_i o ho
    simp only [Bool.and_eq_true] at hB
    obtain ⟨⟨hw1, hal⟩, hB⟩ := hB
    obtain ⟨o', ho', hjk, hda, hlk⟩ := dcB'_spec hB
    rw [ho] at ho'
    cases ho'
    have hal' : s.al = [] := by simpa using hal
    intro o'' ho'' ls a W A hp hr hdl hev hwt
    rw [ho] at ho''
    cases ho''
    have hA : A = [] := by
      have := hp.als
      rw [hal'] at this
      cases this
      rfl
    subst hA
    refine wpOp_step ho fun K' hK => ?_
    rw [if_pos (hwt.trans hw1)]
    unfold Oper.wp
    have h1 := h W.heap.size s.L
    rw [ho] at h1
    have h2 := Option.some.inj h1
    obtain ⟨W', h3, h4⟩ := sym_run W.heap.size _ true [] s.L W _ _ _ _ h2 (fun p hp => by cases hp) (fun _ => rfl) hp.hold
    rw [hev, h3, Oper.upon_value]
    have hG := hn W.heap.size
    unfold dnS at hG
    rw [ho, Option.bind_some] at hG
    refine hK _ _ ((hG ?_) _ _ W' [] (pre_next hw hp ho hjk hr _ (fun b hb hnb => absurd hb hnb) h4))
    exact dw_next hw ho hjk hlk _ (fun b hb => hb) fun b' hb ob u hob hC => hC.imp (fun ⟨h5, h6⟩ => ⟨h5, fun W hW => h6 W (HoldR.tail hW)⟩) id
end
section
variable {P : Program} {Q : Exit → Act → World → Prop} {F : List Asrt}
/-- clear(v[k:]) of a row of one's own. -/
def clrAt (P : Program) (s : St) : Option (TypeId × Option Addr × Nat × List Value) := match opAt s with
  | none => none
  | some o => match o.op with
    | .call { callee := .builtin .clear, args := args, argTypes := tys } => match args.toList, tys.toList with
      | [a1], [t] => match P.underlying t, evl s.l a1 with
        | some (.slice e), .slice A m _ => match P.info? e with
          | some i => match i.zero with
            | some z => some (e, A, m, z.cells.toList)
            | none => none
          | none => none
        | _, _ => none
      | _, _ => none
    | _ => none
theorem clr {s : St} (i : Nat) {e sz n c : Nat} {A : Option Addr} {xs z : List Value} (k m : Nat) (hF : F[i]? = some (rowA e sz (.slice A n c) n xs)) (hk : k + m = n) (hm : 0 < m) (zs : List Value) (hz : (Builtin.zeroCells z.toArray m).toList = zs) (hl : zs.length = m * sz) (xs' : List Value) (hx : xs.take (k * sz) ++ zs = xs') (hn : Go P Q (F.set i (rowA e sz (.slice A n c) n xs')) (adv (nm s) (.tuple #[]))) (h : clrAt P (nm s) = some (e, cutp A k c sz, m, z) := by kernel_rfl) (h1 : zs.all cellV = true := by kernel_rfl) : Go P Q F s := by
  subst hx
  refine norm_sound 400 ?_
  unfold clrAt at h
  split at h
  · cases h
  · rename_i o ho
    split at h
    · rename_i args tys hop
      split at h
      · rename_i a1 t ha htt
        split at h
        · rename_i e' A' m' c' hu hea
          split at h
          · rename_i inf hi
            split at h
            · rename_i z' hz'
              simp only [Option.some.injEq, Prod.mk.injEq] at h
              obtain ⟨rfl, rfl, rfl, rfl⟩ := h
              obtain ⟨all, r, fs, hfs, hw, hadv⟩ := opAt_spec ho
              intro W hW
              rw [hfs]
              refine wpList_step fun K hK => ?_
              rw [if_pos ((wantd_eq all _ o).trans hw)]
              unfold Oper.wp
              have hown : ownR W e' sz (.slice A n c) n xs := hW.f i hF
              obtain ⟨hxl, A0, c0, e0, hnc, hcur⟩ := id hown
              cases e0
              rcases hcur with h0 | ⟨g, cur, rfl, hg, hrest⟩
              · omega
              · have hcut : cutp (some ⟨g, 0, none⟩) k c sz = some ⟨g, k * sz, none⟩ := by
                  unfold cutp
                  rw [if_neg (by omega)]
                  simp [Addr.add_at]
                rw [hcut] at hea
                have e1 : args = #[a1] := by
                  apply Array.toList_inj.1
                  simpa using ha
                have e2 : tys = #[t] := by
                  apply Array.toList_inj.1
                  simpa using htt
                subst e1 e2
                have hxx : k * sz + 0 + zs.length ≤ xs.length := by
                  rw [hl, hxl, Nat.add_zero, ← Nat.add_mul, hk]
                  exact Nat.le_refl _
                obtain ⟨W', h2, h3, h4, h5, h6, h7, h8⟩ := own_store (P := P) (off := k * sz) (W := W) zs 0 xs W hown hxx h1
                have hzv : (zeroValue e').run P W = .ok z' W := by
                  simp [zeroValue, typeInfo, hi, hz']
                have hx : (execOp (evl (nm s).l) o).run P W = .ok (.value (.tuple #[])) W' := by
                  have hm' : m' ≠ 0 := by omega
                  have hz2 : (Builtin.zeroCells z'.cells m').toList = zs := by
                    rw [← hz, Array.toArray_toList]
                  obtain ⟨m2, rfl⟩ : ∃ m2, m' = m2 + 1 := ⟨m' - 1, by omega⟩
                  unfold execOp
                  simp only [hop, resolve, invoke, builtin, Sem.run_bind, Sem.run_pure, Result.andThen_ok, List.map_toArray, List.map_cons, List.map_nil, hea]
                  simp [Builtin.clear_, Sem.run_bind, run_und hu, hzv, hz2, h2]
                rw [evl_eq, hx, Oper.upon_value, put_eq]
                refine hK _ _ ?_
                have h9 := hn W'
                rw [hadv] at h9
                refine h9 (Hold.setF hW hF h4 h5 h6 (by omega) (fun q hq hno => ?_) ?_ fun q hq => .inl hq)
                · refine h8 q fun e => ?_
                  subst e
                  exact hno ⟨n, c, rfl, by omega⟩
                · have h10 : xs.drop (k * sz + 0 + zs.length) = [] := by
                    rw [hl, Nat.add_zero, ← Nat.add_mul, hk, ← hxl, List.drop_length]
                  rw [h10, List.append_nil, Nat.add_zero] at h3
                  exact h3
            · cases h
          · cases h
        · cases h
      · cases h
    · cases h
end
section
variable {P : Program} {Q : Exit → Act → World → Prop} {F : List Asrt}
/-- Where a slice that is read lies. -/
theorem atR {α : Type} {s : St} {A : Option Addr} {n c sz : Nat} {enc : α → List Value} {l : List α} (hr : ∀ W, HoldR W F → Rd W (.slice A n c) sz enc l) (hp : 0 < n) (h : ∀ B o, A = some ⟨B, o, none⟩ → Go P Q F s) : Go P Q F s := by
  intro W hW
  obtain ⟨A', c', e, hc, hA⟩ := hr W (Hold.ff hW)
  cases e
  rcases hA with h0 | ⟨B, o, hB, hat⟩
  · rw [h0] at hp
    exact absurd hp (Nat.lt_irrefl 0)
  · exact h B o hB W hW
end
end Go.Proofs.YtglkhjjhjhhonaaM.Mach
