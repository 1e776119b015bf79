/-
  Words and laws on memory that no program is named in: a slice value that owns a row of the call's own (whatever its frozen mark, so no cell is frozen), a slice that is read, append onto an owned row, conversions between strings and bytes, and small steps on worlds. Conditions: stated at each theorem.
-/
import Derived.Handy
import Derived.PlainAid
import Derived.WalkSpells
import Derived.WalkLawsBesides
import Derived.Laws.IdiomStrings
import Derived.Deep.Draws
import Derived.Deep.AppendLies
import Derived.Lib.Hide
import Derived.Lib.AppendStr
set_option linter.unusedVariables false
set_option linter.unusedSectionVars false
namespace Go.Chz
open Go Go.RowKit

/-! ### Addresses -/
theorem add0 (g o i : Nat) : (⟨g, o, none⟩ : Addr).add i = ⟨g, o + i, none⟩ := by unfold Addr.add; split <;> simp_all
theorem block_add (a : Addr) (i : Nat) : (a.add i).block = a.block := by unfold Addr.add; split <;> rfl

/-! ### Worlds -/
theorem below_drewN {B : Nat} {a w : World} (h : Below B a w) (n : Nat) : Below B a (w.drewN n) := ⟨h.os, h.tape, h.output, h.size, h.block⟩
theorem bcell {B : Nat} {W w1 : World} (hb : Below B W w1) : (∀ b o, b < B → w1.cell? ⟨b, o, none⟩ = W.cell? ⟨b, o, none⟩) ∧ (∀ b o, b < B → w1.frozen? ⟨b, o, none⟩ = W.frozen? ⟨b, o, none⟩) :=
  ⟨fun b o h => hb.cell (p := ⟨b, o, none⟩) h, fun b o h => hb.frozen (p := ⟨b, o, none⟩) h⟩
theorem lt_of_cell {w : World} {b o : Nat} {v : Value} (h : w.cell? ⟨b, o, none⟩ = some v) : b < w.heap.size := World.block_lt_of_cell? w ⟨b, o, none⟩ h
theorem only_drewN {a w : World} {row : Option Nat} (h : a.grownBy w row) (n : Nat) : a.grownBy (w.drewN n) row := ⟨h.os, h.tape, h.output, h.size, h.block⟩
theorem only_drew {a w : World} {row : Option Nat} (h : a.grownBy w row) : a.grownBy w.drew row := ⟨h.os, h.tape, h.output, h.size, h.block⟩
theorem only_refl (a : World) (row : Option Nat) : a.grownBy a row := ⟨rfl, rfl, rfl, Nat.le_refl _, fun _ _ _ => rfl⟩
theorem only_alloc {a w : World} {row : Option Nat} (h : a.grownBy w row) (o : Obj) : a.grownBy (w.alloc o) row :=
  ⟨h.os, h.tape, h.output, Nat.le_trans h.size (by simp), fun i hi hne => (Below.heap_alloc w o i (Nat.lt_of_lt_of_le hi h.size)).trans (h.block i hi hne)⟩
theorem only_setCell {a w : World} {row : Option Nat} (h : a.grownBy w row) {p : Addr} (hp : some p.block = row ∨ a.heap.size ≤ p.block) (u : Value) : a.grownBy (w.setCell p u) row :=
  ⟨h.os, h.tape, h.output, by simpa [World.setCell] using h.size, fun i hi hne => (Below.heap_setCell w p u i (by
    rintro rfl
    rcases hp with hp | hp
    · exact hne hp
    · omega)).trans (h.block i hi hne)⟩
theorem only_of_below {a w : World} (h : Below a.heap.size a w) (row : Option Nat) : a.grownBy w row := ⟨h.os, h.tape, h.output, h.size, fun i hi _ => h.block i hi⟩
theorem only_trans {a b c : World} {row row' : Option Nat} (h : a.grownBy b row) (k : b.grownBy c row') (hr : ∀ g, row' = some g → row = some g ∨ a.heap.size ≤ g) : a.grownBy c row :=
  ⟨k.os.trans h.os, k.tape.trans h.tape, k.output.trans h.output, Nat.le_trans h.size k.size, fun i hi hne =>
    (k.block i (Nat.lt_of_lt_of_le hi h.size) (fun e => by
      rcases hr i e.symm with e' | e'
      · exact hne e'.symm
      · omega)).trans (h.block i hi hne)⟩
theorem only_below {a w : World} {row : Option Nat} (h : a.grownBy w row) {B : Nat} (hB : B ≤ a.heap.size) (hr : ∀ g, row = some g → B ≤ g) : Below B a w :=
  (Below.refl B a).grown h hB hr
theorem only_cell {a w : World} {row : Option Nat} (h : a.grownBy w row) {b o : Nat} {v : Value} (hc : a.cell? ⟨b, o, none⟩ = some v) (hne : some b ≠ row) : w.cell? ⟨b, o, none⟩ = some v := h.cell (a := ⟨b, o, none⟩) hc hne

/-! ### A row that the call owns -/
/-- No cell of a row of so many cells is frozen. -/
def freeRow (fz : Nat × Nat) (sz : Nat) : Prop := fz.2 ≤ fz.1 ∨ sz ≤ fz.1

theorem freeRow.cell {w : World} {g : Nat} {cur : Array Value} {e : TypeId} {fz : Nat × Nat} (hg : w.heap[g]? = some (.cells cur e fz)) (hf : freeRow fz cur.size) (j : Nat) (hj : j < cur.size) : w.frozen? ⟨g, j, none⟩ = false := by
  obtain ⟨lo, hi⟩ := fz
  simp only [World.frozen?, hg, Bool.and_eq_false_iff, decide_eq_false_iff_not]
  unfold freeRow at hf
  simp only at hf
  omega

/-- THE SLICE VALUE '.slice A n c', of n elements of 'size' cells, OWNS the cells xs: it is nil, or it begins at the head of a row from block 'base' on, of which no cell is frozen. -/
def Own (w : World) (base : Nat) (e : TypeId) (size : Nat) (A : Option Addr) (n c : Nat) (xs : List Value) : Prop :=
  xs.length = n * size ∧
  ((A = none ∧ n = 0 ∧ c = 0) ∨
   ∃ g cur fz, A = some ⟨g, 0, none⟩ ∧ base ≤ g ∧ w.heap[g]? = some (.cells cur e fz) ∧ freeRow fz cur.size ∧ n ≤ c ∧ c ≤ maxLen ∧ c * size ≤ cur.size ∧ cur.toList.take (n * size) = xs)

/-- The block in which it lies. -/
def blk (A : Option Addr) : Option Nat := A.map (·.block)
theorem blk_some (g o : Nat) : blk (some ⟨g, o, none⟩) = some g := rfl
theorem blk_none : blk none = none := rfl

section
variable {w : World} {base : Nat} {e : TypeId} {size : Nat} {A : Option Addr} {n c : Nat} {xs : List Value}

theorem Own.nil (w : World) (base : Nat) (e : TypeId) (size : Nat) : Own w base e size none 0 0 [] := ⟨by simp, .inl ⟨rfl, rfl, rfl⟩⟩

theorem Own.of_new {w : World} {g : Nat} {cur : Array Value} {fz : Nat × Nat} (hg : w.heap[g]? = some (.cells cur e fz)) (hf : freeRow fz cur.size) (hb : base ≤ g) (hn : n ≤ c) (hm : c ≤ maxLen) (hs : c * size ≤ cur.size) :
    Own w base e size (some ⟨g, 0, none⟩) n c (cur.toList.take (n * size)) := by
  refine ⟨?_, .inr ⟨g, cur, fz, rfl, hb, hg, hf, hn, hm, hs, rfl⟩⟩
  have := Nat.mul_le_mul_right size hn
  simp only [List.length_take, Array.length_toList]
  omega

theorem Own.lt (h : Own w base e size A n c xs) : ∀ g, blk A = some g → base ≤ g ∧ g < w.heap.size := by
  intro k hk
  rcases h.2 with ⟨rfl, _⟩ | ⟨g, cur, fz, rfl, hb, hg, _⟩
  · cases hk
  · cases hk; exact ⟨hb, (Array.getElem?_eq_some_iff.1 hg).1⟩

theorem Own.kept {w' : World} {row : Option Nat} (h : Own w base e size A n c xs) (hg : w.grownBy w' row) (hne : blk A = none ∨ blk A ≠ row) : Own w' base e size A n c xs := by
  refine ⟨h.1, ?_⟩
  rcases h.2 with hn | ⟨g, cur, fz, rfl, hb, hgg, rest⟩
  · exact .inl hn
  · refine .inr ⟨g, cur, fz, rfl, hb, ?_, rest⟩
    have hne' : some g ≠ row := hne.elim (fun h => by cases h) (fun h => h)
    rw [hg.block g (Array.getElem?_eq_some_iff.1 hgg).1 hne']
    exact hgg

theorem Own.keptB {w' : World} {B : Nat} (h : Own w base e size A n c xs) (hb : Below B w w') (hlt : ∀ g, blk A = some g → g < B) : Own w' base e size A n c xs := by
  refine ⟨h.1, ?_⟩
  rcases h.2 with hn | ⟨g, cur, fz, rfl, hbg, hgg, rest⟩
  · exact .inl hn
  · exact .inr ⟨g, cur, fz, rfl, hbg, (hb.block g (hlt g rfl)).trans hgg, rest⟩
theorem Own.below {w' : World} (h : Own w base e size A n c xs) (hb : Below w.heap.size w w') : Own w' base e size A n c xs := h.keptB hb fun g hg => (h.lt g hg).2
theorem Own.alloc (h : Own w base e size A n c xs) (o : Obj) : Own (w.alloc o) base e size A n c xs := h.below ((Below.refl _ _).alloc (Nat.le_refl _) o)
theorem Own.drew (h : Own w base e size A n c xs) : Own w.drew base e size A n c xs := h
theorem Own.drewN (h : Own w base e size A n c xs) (k : Nat) : Own (w.drewN k) base e size A n c xs := h
theorem Own.set_far (h : Own w base e size A n c xs) {p : Addr} (hp : blk A ≠ some p.block) (u : Value) : Own (w.setCell p u) base e size A n c xs :=
  h.kept (row := some p.block) (only_setCell (only_refl w _) (.inl rfl) u) (.inr hp)
theorem Own.mono {base' : Nat} (h : Own w base e size A n c xs) (hb : base' ≤ base) : Own w base' e size A n c xs :=
  ⟨h.1, h.2.imp id fun ⟨g, cur, fz, a, b, r⟩ => ⟨g, cur, fz, a, Nat.le_trans hb b, r⟩⟩

theorem Own.form (h : Own w base e size A n c xs) (hn : 0 < n) : ∃ g, A = some ⟨g, 0, none⟩ ∧ base ≤ g ∧ g < w.heap.size := by
  rcases h.2 with ⟨_, h0, _⟩ | ⟨g, cur, fz, hA, hb, hg, _⟩
  · omega
  · exact ⟨g, hA, hb, (Array.getElem?_eq_some_iff.1 hg).1⟩

theorem Own.cell {g : Nat} (h : Own w base e size (some ⟨g, 0, none⟩) n c xs) {j : Nat} {u : Value} (hu : xs[j]? = some u) : w.cell? ⟨g, j, none⟩ = some u := by
  rcases h.2 with ⟨h0, _⟩ | ⟨g', cur, fz, hA, _, hg, _, _, _, _, ht⟩
  · cases h0
  · cases hA
    rw [cell_of_row w g j cur e fz hg]
    rw [← ht, List.getElem?_take] at hu
    split at hu
    · simpa using hu
    · cases hu

theorem Own.frozen {g : Nat} (h : Own w base e size (some ⟨g, 0, none⟩) n c xs) {j : Nat} (hj : j < n * size) : w.frozen? ⟨g, j, none⟩ = false := by
  rcases h.2 with ⟨h0, _⟩ | ⟨g', cur, fz, hA, _, hg, hf, hn, _, hc, _⟩
  · cases h0
  · cases hA
    exact hf.cell hg j (by have := Nat.mul_le_mul_right size hn; omega)

theorem Own.set {g : Nat} (h : Own w base e size (some ⟨g, 0, none⟩) n c xs) (j : Nat) (u : Value) : Own (w.setCell ⟨g, j, none⟩ u) base e size (some ⟨g, 0, none⟩) n c (xs.set j u) := by
  rcases h.2 with ⟨h0, _⟩ | ⟨g', cur, fz, hA, hb, hg, hf, hn, hm, hc, ht⟩
  · cases h0
  · cases hA
    refine ⟨by simpa using h.1, .inr ⟨g, cur.setIfInBounds j u, fz, rfl, hb, ?_, by simpa using hf, hn, hm, by simpa using hc, ?_⟩⟩
    · simp [World.setCell, Array.getElem?_modify, hg]
    · rw [Array.toList_setIfInBounds, List.take_set, ht]
end

/-! ### A block that is known whole -/
def Blk (w : World) (g : Nat) (t : TypeId) (cs : List Value) : Prop := w.heap[g]? = some (.cells cs.toArray t (0, 0))
section
variable {w w' : World} {g : Nat} {t : TypeId} {cs : List Value}
theorem Blk.lt (h : Blk w g t cs) : g < w.heap.size := (Array.getElem?_eq_some_iff.1 h).1
theorem Blk.cell (h : Blk w g t cs) (i : Nat) {v : Value} (hv : cs[i]? = some v) : w.cell? ⟨g, i, none⟩ = some v := by
  rw [cell_of_row w g i cs.toArray t (0, 0) h]; simpa using hv
theorem Blk.frozen (h : Blk w g t cs) (i : Nat) : w.frozen? ⟨g, i, none⟩ = false := by
  unfold Blk at h
  simp [World.frozen?, h]
theorem Blk.new (w : World) (t : TypeId) (cs : List Value) : Blk (w.alloc (.cells cs.toArray t)) w.heap.size t cs := heap_alloc_new w _
theorem Blk.new' {w : World} {H : Nat} (hH : w.heap.size = H) (t : TypeId) (cs : List Value) : Blk (w.alloc (.cells cs.toArray t)) H t cs := by subst hH; exact heap_alloc_new w _
theorem Blk.drew (h : Blk w g t cs) : Blk w.drew g t cs := h
theorem Blk.drewN (h : Blk w g t cs) (n : Nat) : Blk (w.drewN n) g t cs := h
theorem Blk.alloc (h : Blk w g t cs) (o : Obj) : Blk (w.alloc o) g t cs := (Below.heap_alloc w o g h.lt).trans h
theorem Blk.set (h : Blk w g t cs) (i : Nat) (u : Value) : Blk (w.setCell ⟨g, i, none⟩ u) g t (cs.set i u) := by
  unfold Blk at h ⊢
  simp [World.setCell, Array.getElem?_modify, h]
theorem Blk.far (h : Blk w g t cs) {p : Addr} (hp : g ≠ p.block) (u : Value) : Blk (w.setCell p u) g t cs := (Below.heap_setCell w p u g hp).trans h
theorem Blk.below {B : Nat} (h : Blk w g t cs) (hb : Below B w w') (hg : g < B) : Blk w' g t cs := (hb.block g hg).trans h
theorem Blk.belowS (h : Blk w g t cs) (hb : Below w.heap.size w w') : Blk w' g t cs := h.below hb h.lt
theorem Blk.only {row : Option Nat} (h : Blk w g t cs) (hb : w.grownBy w' row) (hg : some g ≠ row) : Blk w' g t cs := (hb.block g h.lt hg).trans h
theorem Blk.ne (h : Blk w g t cs) {g' : Nat} {t' : TypeId} {cs' : List Value} (h' : Blk w g' t' cs') (hne : t ≠ t') : g ≠ g' := by
  rintro rfl
  unfold Blk at h h'
  rw [h] at h'
  injection h' with h'
  injection h' with _ ht
  exact hne ht
theorem Blk.ne_own (h : Blk w g t cs) {base : Nat} {e : TypeId} {size : Nat} {A : Option Addr} {n c : Nat} {xs : List Value} (ho : Own w base e size A n c xs) (hne : t ≠ e) : some g ≠ blk A := by
  rcases ho.2 with ⟨rfl, _⟩ | ⟨g', cur, fz, rfl, _, hg, _⟩
  · simp [blk]
  · intro he
    simp [blk] at he
    subst he
    unfold Blk at h
    rw [h] at hg
    injection hg with hg
    injection hg with _ ht
    exact hne ht
end

/-! ### A result that lies in a block -/
theorem run_loadVar_blk {P : Program} {w : World} {g : Nat} {t ty : TypeId} {cs : List Value} {d : TypeDesc} (h : Blk w g t cs) (hu : P.underlying ty = some d) (hd : (match d with | .struct _ | .array _ _ => true | _ => false) = true) (hi : (P.info? ty).map (·.size) = some cs.length) :
    (loadVar ty ⟨g, 0, none⟩).run P w = .ok (.agg cs.toArray) w :=
  run_loadVar_row w g t ty cs.toArray (0, 0) d h hu hd (by simpa using hi)
/-- What one result variable holds. -/
def ResIs (P : Program) (w : World) (tmps : Array Value) : ResultVar → Value → Prop
  | .tmp t, v => v = tmps.getD t undef
  | .cell a ty, v => ∃ g, tmps.getD a undef = .pointer (some ⟨g, 0, none⟩) ∧ (loadVar ty ⟨g, 0, none⟩).run P w = .ok v w
theorem res_cell {P : Program} {w : World} {tmps : Array Value} {a : Tmp} {ty t : TypeId} {g : Nat} {cs : List Value} {d : TypeDesc} (hp : tmps.getD a undef = .pointer (some ⟨g, 0, none⟩)) (h : Blk w g t cs) (hu : P.underlying ty = some d) (hd : (match d with | .struct _ | .array _ _ => true | _ => false) = true) (hi : (P.info? ty).map (·.size) = some cs.length) :
    ResIs P w tmps (.cell a ty) (.agg cs.toArray) := ⟨g, hp, run_loadVar_blk h hu hd hi⟩
def resOf (tmps : Array Value) : ResultVar → Sem Value
  | .tmp t => pure (tmps.getD t undef)
  | .cell a t => do loadVar t (← asAddr (tmps.getD a undef))
theorem results_eq (fn : Func) (tmps : Array Value) : results fn tmps = (do
    let vs ← fn.results.mapM (resOf tmps)
    pure (if h : vs.size = 1 then vs[0] else .tuple vs)) := by
  unfold results
  congr 2
theorem run_res {P : Program} {w : World} {tmps : Array Value} {r : ResultVar} {v : Value} (h : ResIs P w tmps r v) : (resOf tmps r).run P w = .ok v w := by
  cases r with
  | tmp t => simp only [ResIs] at h; subst h; rfl
  | cell a t => obtain ⟨g, hp, hl⟩ := h; simp only [resOf, hp, asAddr, Sem.run_bind, Sem.run_pure, Result.andThen_ok]; exact hl
theorem results_1 {P : Program} {w : World} {fn : Func} {tmps : Array Value} {r0 : ResultVar} {v0 : Value} (h : fn.results = #[r0]) (h0 : ResIs P w tmps r0 v0) : (results fn tmps).run P w = .ok v0 w := by
  rw [results_eq, h]
  simp [run_res h0]
theorem results_2 {P : Program} {w : World} {fn : Func} {tmps : Array Value} {r0 r1 : ResultVar} {v0 v1 : Value} (h : fn.results = #[r0, r1]) (h0 : ResIs P w tmps r0 v0) (h1 : ResIs P w tmps r1 v1) : (results fn tmps).run P w = .ok (.tuple #[v0, v1]) w := by
  rw [results_eq, h]
  simp [Sem.run_bind, run_res h0, run_res h1, Result.andThen]
theorem results_3 {P : Program} {w : World} {fn : Func} {tmps : Array Value} {r0 r1 r2 : ResultVar} {v0 v1 v2 : Value} (h : fn.results = #[r0, r1, r2]) (h0 : ResIs P w tmps r0 v0) (h1 : ResIs P w tmps r1 v1) (h2 : ResIs P w tmps r2 v2) : (results fn tmps).run P w = .ok (.tuple #[v0, v1, v2]) w := by
  rw [results_eq, h]
  simp [Sem.run_bind, run_res h0, run_res h1, run_res h2, Result.andThen]
theorem results_4 {P : Program} {w : World} {fn : Func} {tmps : Array Value} {r0 r1 r2 r3 : ResultVar} {v0 v1 v2 v3 : Value} (h : fn.results = #[r0, r1, r2, r3]) (h0 : ResIs P w tmps r0 v0) (h1 : ResIs P w tmps r1 v1) (h2 : ResIs P w tmps r2 v2) (h3 : ResIs P w tmps r3 v3) : (results fn tmps).run P w = .ok (.tuple #[v0, v1, v2, v3]) w := by
  rw [results_eq, h]
  simp [Sem.run_bind, run_res h0, run_res h1, run_res h2, run_res h3, Result.andThen]

/-! ### append onto an owned row -/
section
variable {P : Program} (w : World)

theorem run_storeCells_free (g o : Nat) (t : TypeId) (fz : Nat × Nat) : ∀ (vs : List Value) (i : Nat) (cur : Array Value) (w : World), w.heap[g]? = some (.cells cur t fz) → freeRow fz cur.size → o + i + vs.length ≤ cur.size → (∀ v ∈ vs, v.oneCell' = true) →
    ∃ w' cur', (storeCells ⟨g, o, none⟩ vs i).run P w = .ok () w' ∧ w'.heap[g]? = some (.cells cur' t fz) ∧ cur'.size = cur.size ∧ w.grownBy w' (some g) ∧
      cur'.toList = cur.toList.take (o + i) ++ vs ++ cur.toList.drop (o + i + vs.length)
  | [], i, cur, w, hg, _, _, _ => by
    refine ⟨w, cur, rfl, hg, rfl, only_refl w _, ?_⟩
    simp
  | v :: rest, i, cur, w, hg, hfz, hl, h1 => by
    have hi : o + i < cur.size := by simp at hl; omega
    have hcell : w.cell? ⟨g, o + i, none⟩ = some cur[o + i] := by simp [World.cell?, hg, hi]
    have hfro : w.frozen? ⟨g, o + i, none⟩ = false := hfz.cell hg _ hi
    have hst : (store ((⟨g, o, none⟩ : Addr).add i) v).run P w = .ok () (w.setCell ⟨g, o + i, none⟩ v) := by
      rw [add0, run_store P w _ v _ (h1 v (by simp)), hcell]
      simp [hfro]
    have hg1 : (w.setCell ⟨g, o + i, none⟩ v).heap[g]? = some (.cells (cur.setIfInBounds (o + i) v) t fz) := by simp [World.setCell, Array.getElem?_modify, hg]
    obtain ⟨w', cur', hr, h2, h3, h4, h5⟩ := run_storeCells_free g o t fz rest (i + 1) (cur.setIfInBounds (o + i) v) _ hg1 (by simpa using hfz) (by simp at hl ⊢; omega) (fun x hx => h1 x (by simp [hx]))
    refine ⟨w', cur', ?_, h2, by simpa using h3, ?_, ?_⟩
    · simp only [storeCells, Sem.run_bind, hst, Result.andThen_ok, hr]
    · exact only_trans (only_setCell (only_refl w _) (.inl rfl) v) h4 (fun g' h => .inl h)
    · have e := list_seg_step cur.toList (o + i) v rest (by simp at hl ⊢; omega)
      rw [h5]
      simpa [Array.toList_setIfInBounds, Nat.add_assoc] using e

/-- THE LAW. 'news' lie at address ad, or nothing is appended. -/
theorem run_append_O (base : Nat) (t ty e : TypeId) (i : TypeInfo) (z : Value) (size bytes : Nat) (ht : P.underlying t = some (.slice e)) (hi : P.info? e = some i) (hz : i.zero = some z)
    (hsize : i.size = size) (hby : i.bytes = bytes) (hzs : z.cells.size = size)
    (A : Option Addr) (n c : Nat) (xs : List Value) (hown : Own w base e size A n c xs)
    (X : Option Addr) (m d : Nat) (news : List Value) (hl : news.length = m * size) (hX : 0 < m → ∃ ad, X = some ad ∧ ∀ j u, news[j]? = some u → w.cell? (ad.add j) = some u) (h1 : ∀ u ∈ news, u.oneCell' = true)
    (h63 : n + m ≤ maxLen) (hbytes : (n + m) * bytes ≤ 140737488355328) (hbase : base ≤ w.heap.size) :
    ∃ A' c' w', (Builtin.append_ #[t, t] ty #[.slice A n c, .slice X m d]).run P w = .ok (.slice A' (n + m) c') w' ∧ Own w' base e size A' (n + m) c' (xs ++ news) ∧ w.grownBy w' (blk A) ∧
      (blk A' = blk A ∨ blk A' = some w.heap.size) := by
  subst hsize
  subst hby
  have hsmall : n + m ≤ 9223372036854775807 := by simp only [maxLen] at h63; omega
  have hlen : (xs ++ news).length = (n + m) * i.size := by rw [List.length_append, hown.1, hl, Nat.add_mul]
  rcases Nat.eq_zero_or_pos m with h0 | h0
  · subst h0
    have hn : news = [] := List.eq_nil_of_length_eq_zero (by simpa using hl)
    subst hn
    refine ⟨A, c, w, ?_, by simpa using hown, only_refl w _, .inl rfl⟩
    have hnc : n ≤ c := by rcases hown.2 with ⟨_, a, b⟩ | ⟨_, _, _, _, _, _, _, h, _⟩ <;> omega
    rcases A with _ | a <;> rcases X with _ | x <;>
      simp [Builtin.append_, run_underlying ht, sizeOf, typeInfo, hi, Builtin.lenOf, Builtin.firstCells, loadCells, loadCellsFrom, storeCells, hnc]
  · obtain ⟨ad, rfl, hnews⟩ := hX h0
    have grown : ∀ (old : Nat), ∀ (row : Option Nat),
        Own (w.drew.alloc (.cells (xs.toArray ++ news.toArray ++ Builtin.zeroCells z.cells (grownCap w (n + m) old e - (n + m))) e)) base e i.size
          (some ⟨w.heap.size, 0, none⟩) (n + m) (grownCap w (n + m) old e) (xs ++ news) ∧
        w.grownBy (w.drew.alloc (.cells (xs.toArray ++ news.toArray ++ Builtin.zeroCells z.cells (grownCap w (n + m) old e - (n + m))) e)) row := by
      intro old row
      have hge := grownCap_ge w (n + m) old e
      have hcm : grownCap w (n + m) old e ≤ maxLen := grownCap_le_maxLen w (n + m) old e h63
      refine ⟨⟨hlen, .inr ⟨w.heap.size, _, (0, 0), rfl, hbase, heap_alloc_new w.drew _, .inl (Nat.le_refl _), hge, hcm, ?_, ?_⟩⟩, ⟨rfl, rfl, rfl, by simp, fun k hk _ => Below.heap_alloc _ _ k hk⟩⟩
      · simp only [Array.size_append, List.size_toArray, size_zeroCells, hzs, hown.1, hl, ← Nat.add_mul]
        exact Nat.mul_le_mul_right _ (by omega)
      · simp only [Array.toList_append, List.append_assoc]
        rw [← List.append_assoc, ← hlen]
        exact List.take_left
    rcases hown.2 with ⟨rfl, rfl, rfl⟩ | ⟨g, cur, fz, rfl, hbg, hg, hf, hnc, hcm, hcs, htake⟩
    · have hx : xs = [] := List.eq_nil_of_length_eq_zero (by simpa using hown.1)
      subst hx
      have hr := run_append_nil (P := P) w t ty e i z ht hi hz ad m d news hl hnews (by omega) (by omega) (by have hb := hbytes; simp only [Nat.zero_add] at hb; omega)
      have hgr := grown 0 (blk none)
      simp only [Nat.zero_add, List.nil_append, Array.empty_append] at hgr ⊢
      exact ⟨_, _, _, hr, hgr.1, hgr.2, .inr rfl⟩
    · by_cases hroom : n + m ≤ c
      · have hfit : n * i.size + news.length ≤ cur.size := by
          rw [hl, ← Nat.add_mul]; exact Nat.le_trans (Nat.mul_le_mul_right _ hroom) hcs
        obtain ⟨w', cur', hst, hg', hsz', hgrow, hl'⟩ := run_storeCells_free (P := P) g (n * i.size) e fz news 0 cur w hg hf (by simpa using hfit) h1
        simp only [Nat.add_zero] at hst hl'
        have hfc := run_firstCells_some (P := P) w i.size m ad m d news hl hnews
        refine ⟨some ⟨g, 0, none⟩, c, w', ?_, ⟨hlen, .inr ⟨g, cur', fz, rfl, hbg, hg', by rw [hsz']; exact hf, hroom, hcm, by rw [hsz']; exact hcs, ?_⟩⟩, hgrow, .inl rfl⟩
        · simp [Builtin.append_, run_underlying ht, sizeOf, typeInfo, hi, Builtin.lenOf, hroom, hfc, Addr.add_lit, hst]
        · rw [hl', htake, ← hlen]
          exact List.take_left
      · have holds : ∀ j u, xs[j]? = some u → w.cell? ((⟨g, 0, none⟩ : Addr).add j) = some u := fun j u hu => by
          rw [add0, Nat.zero_add]; exact hown.cell hu
        have hr := run_append_grow (P := P) w t ty e i z ht hi hz ⟨g, 0, none⟩ n c xs hown.1 holds ad m d news hl hnews (by omega) (by omega) (growslice_fits (by omega) hbytes)
        have hgr := grown c (blk (some ⟨g, 0, none⟩))
        exact ⟨_, _, _, hr, hgr.1, hgr.2, .inr rfl⟩

theorem wp_append_O {o : Oper} {a : Act} {K : Act → World → Prop} {Q : Exit → Act → World → Prop} (s x : Operand) (t : TypeId)
    (ho : o.op = .call { callee := .builtin .append, args := #[s, x], argTypes := #[t, t] })
    (base : Nat) (e : TypeId) (i : TypeInfo) (z : Value) (size bytes : Nat) (ht : P.underlying t = some (.slice e)) (hi : P.info? e = some i) (hz : i.zero = some z)
    (hsize : i.size = size) (hby : i.bytes = bytes) (hzs : z.cells.size = size)
    (A : Option Addr) (n c : Nat) (xs : List Value) (hs : a.eval s = .slice A n c) (hown : Own w base e size A n c xs)
    (X : Option Addr) (m d : Nat) (news : List Value) (hx : a.eval x = .slice X m d) (hl : news.length = m * size) (hX : 0 < m → ∃ ad, X = some ad ∧ ∀ j u, news[j]? = some u → w.cell? (ad.add j) = some u) (h1 : ∀ u ∈ news, u.oneCell' = true)
    (h63 : n + m ≤ maxLen) (hbytes : (n + m) * bytes ≤ 140737488355328) (hbase : base ≤ w.heap.size)
    (h : ∀ A' c' w', Own w' base e size A' (n + m) c' (xs ++ news) → w.grownBy w' (blk A) → (blk A' = blk A ∨ blk A' = some w.heap.size) → K (a.put o.dst (.slice A' (n + m) c')) w') : o.wp P a w K Q := by
  obtain ⟨A', c', w', hr, h2, h3, h4⟩ := run_append_O (P := P) w base t o.type e i z size bytes ht hi hz hsize hby hzs A n c xs hown X m d news hl hX h1 h63 hbytes hbase
  unfold Oper.wp execOp
  simp only [ho, resolve, invoke, builtin, Sem.run_bind, Sem.run_pure, Result.andThen_ok, List.map_toArray, List.map_cons, List.map_nil, hs, hx, hr]
  exact h A' c' w' h2 h3 h4

theorem wpList_append_O {ops : Array Oper} {rest : List Oper} {o : Oper} {a : Act} {Q : Exit → Act → World → Prop} (hgd : o.guard = none) (s x : Operand) (t : TypeId)
    (ho : o.op = .call { callee := .builtin .append, args := #[s, x], argTypes := #[t, t] })
    (base : Nat) (e : TypeId) (i : TypeInfo) (z : Value) (size bytes : Nat) (ht : P.underlying t = some (.slice e)) (hi : P.info? e = some i) (hz : i.zero = some z)
    (hsize : i.size = size) (hby : i.bytes = bytes) (hzs : z.cells.size = size)
    (A : Option Addr) (n c : Nat) (xs : List Value) (hs : a.eval s = .slice A n c) (hown : Own w base e size A n c xs)
    (X : Option Addr) (m d : Nat) (news : List Value) (hx : a.eval x = .slice X m d) (hl : news.length = m * size) (hX : 0 < m → ∃ ad, X = some ad ∧ ∀ j u, news[j]? = some u → w.cell? (ad.add j) = some u) (h1 : ∀ u ∈ news, u.oneCell' = true)
    (h63 : n + m ≤ maxLen) (hbytes : (n + m) * bytes ≤ 140737488355328) (hbase : base ≤ w.heap.size)
    (h : ∀ A' c' w', Own w' base e size A' (n + m) c' (xs ++ news) → w.grownBy w' (blk A) → (blk A' = blk A ∨ blk A' = some w.heap.size) → wpList P ops Q rest (a.put o.dst (.slice A' (n + m) c')) w') : wpList P ops Q (o :: rest) a w :=
  wpList_plain hgd fun _ hK => wp_append_O w s x t ho base e i z size bytes ht hi hz hsize hby hzs A n c xs hs hown X m d news hx hl hX h1 h63 hbytes hbase fun A' c' w' h2 h3 h4 => hK _ _ (h A' c' w' h2 h3 h4)
end

/-- One element laid in a block of its own, in the world behind that. -/
theorem new1 (w : World) (x : Value) (t : TypeId) : 0 < 1 → ∃ ad, some (⟨w.heap.size, 0, none⟩ : Addr) = some ad ∧ ∀ j u, [x][j]? = some u → (w.alloc (.cells #[x] t)).cell? (ad.add j) = some u :=
  fun _ => ⟨_, rfl, cell_one_new w x t⟩

/-! ### Strings and bytes -/
/-- A list of bytes as cells. -/
def bcells (l : List UInt8) : List Value := l.map fun b => Value.int .u8 b.toNat
theorem bcells_length (l : List UInt8) : (bcells l).length = l.length := by simp [bcells]
theorem bcells_append (a b : List UInt8) : bcells (a ++ b) = bcells a ++ bcells b := by simp [bcells]
theorem bcells_one (l : List UInt8) : ∀ u ∈ bcells l, u.oneCell' = true := by
  intro u hu; simp only [bcells, List.mem_map] at hu; obtain ⟨b, _, rfl⟩ := hu; rfl
theorem bcells_get (l : List UInt8) (j : Nat) : (bcells l)[j]? = (l[j]?).map fun b => Value.int .u8 b.toNat := by simp [bcells]

section
variable {P : Program} (w : World)
/-- '[]byte(s)': a row of the call's own. -/
theorem run_bytes_O (src dst e : TypeId) (s : ByteArray) (hs : P.underlying src = some .string) (hd : P.underlying dst = some (.slice e)) (he : P.underlying e = some (.int .u8)) (hm : s.size ≤ maxLen) (base : Nat) (hb : base ≤ w.heap.size) :
    ∃ c w', (convert src dst (.string s)).run P w = .ok (.slice (some ⟨w.heap.size, 0, none⟩) s.size c) w' ∧ Own w' base e 1 (some ⟨w.heap.size, 0, none⟩) s.size c (bcells s.data.toList) ∧ w.grownBy w' none := by
  refine ⟨_, _, run_bytes_of_string w src dst e s hs hd he, ?_, ⟨rfl, rfl, rfl, by simp, fun k hk _ => Below.heap_alloc _ _ k hk⟩⟩
  have hge := grownCap_ge w s.size 0 e
  have hcm := grownCap_le_maxLen w s.size 0 e hm
  have hss : s.data.size = s.size := rfl
  have := Own.of_new (w := w.drew.alloc (.cells (bytesRow s (grownCap w s.size 0 e)) e ((bytesRow s (grownCap w s.size 0 e)).size, (bytesRow s (grownCap w s.size 0 e)).size + 1)))
    (base := base) (e := e) (size := 1) (n := s.size) (c := grownCap w s.size 0 e) (heap_alloc_new w.drew _) (.inr (Nat.le_refl _)) hb hge hcm (by simp [bytesRow, hss]; omega)
  have e1 : (bytesRow s (grownCap w s.size 0 e)).toList.take (s.size * 1) = bcells s.data.toList := by
    have hl : (s.data.toList.map fun b => Value.int .u8 (b.toNat : Int)).length = s.size := by simp [hss]
    simp only [bytesRow, Array.toList_append, Array.toList_map, Nat.mul_one]
    rw [List.take_append_of_le_length (by omega), List.take_of_length_le (by omega)]
    rfl
  rw [e1] at this
  exact this

/-- 'string(b)' where b's cells are the bytes l. -/
theorem run_string_O (src dst e : TypeId) (A : Option Addr) (n c : Nat) (l : List UInt8) (hs : P.underlying src = some (.slice e)) (he : P.underlying e = some (.int .u8)) (hd : P.underlying dst = some .string)
    (hn : l.length = n) (hc : 0 < n → ∃ ad, A = some ad ∧ ∀ j u, (bcells l)[j]? = some u → w.cell? (ad.add j) = some u) :
    (convert src dst (.slice A n c)).run P w = .ok (.string ⟨l.toArray⟩) w := by
  subst hn
  rcases Nat.eq_zero_or_pos l.length with h0 | h0
  · have hl : l = [] := List.eq_nil_of_length_eq_zero h0
    subst hl
    rw [run_convert_bytes_string w src dst e A _ c hs he hd]
    rcases A with _ | a
    · simp [Conv.bytesToString]; rfl
    · have := run_bytesToString (P := P) w a 0 c [] (by simp [loadCells, loadCellsFrom])
      exact this
  · obtain ⟨ad, rfl, hcell⟩ := hc h0
    refine run_convert_bytes_back w src dst e ad c l hs he hd fun j hj => hcell j _ ?_
    rw [bcells_get, List.getElem?_eq_getElem hj]; rfl
end

/-- The cells of an owned row, at its address. -/
theorem Own.cellsAt {w : World} {base : Nat} {e : TypeId} {A : Option Addr} {n c : Nat} {xs : List Value} {size : Nat} (h : Own w base e size A n c xs) : 0 < n → ∃ ad, A = some ad ∧ ∀ j u, xs[j]? = some u → w.cell? (ad.add j) = some u := by
  intro hn
  obtain ⟨g, rfl, _, _⟩ := h.form hn
  exact ⟨_, rfl, fun j u hu => by rw [add0, Nat.zero_add]; exact h.cell hu⟩

section
variable {P : Program} {w : World} {ops : Array Oper} {rest : List Oper} {o : Oper} {a : Act} {Q : Exit → Act → World → Prop}
theorem wpList_bytes_O (hgd : o.guard = none) (src dst : TypeId) (x : Operand) (ho : o.op = .convert src dst x) (e : TypeId) (s : ByteArray) (hx : a.eval x = .string s) (hs : P.underlying src = some .string) (hd : P.underlying dst = some (.slice e)) (he : P.underlying e = some (.int .u8)) (hm : s.size ≤ maxLen) (base : Nat) (hb : base ≤ w.heap.size)
    (h : ∀ c w', Own w' base e 1 (some ⟨w.heap.size, 0, none⟩) s.size c (bcells s.data.toList) → w.grownBy w' none → wpList P ops Q rest (a.put o.dst (.slice (some ⟨w.heap.size, 0, none⟩) s.size c)) w') : wpList P ops Q (o :: rest) a w := by
  refine wpList_plain hgd fun K hK => ?_
  obtain ⟨c, w', hr, h2, h3⟩ := run_bytes_O (P := P) w src dst e s hs hd he hm base hb
  unfold Oper.wp execOp
  simp only [ho, Sem.run_bind, hx, hr, Sem.run_pure, Result.andThen_ok, Oper.upon]
  exact hK _ _ (h c w' h2 h3)

theorem wpList_string_O (hgd : o.guard = none) (src dst : TypeId) (x : Operand) (ho : o.op = .convert src dst x) (e : TypeId) (A : Option Addr) (n c : Nat) (l : List UInt8) (hx : a.eval x = .slice A n c) (hs : P.underlying src = some (.slice e)) (he : P.underlying e = some (.int .u8)) (hd : P.underlying dst = some .string)
    (hn : l.length = n) (hc : 0 < n → ∃ ad, A = some ad ∧ ∀ j u, (bcells l)[j]? = some u → w.cell? (ad.add j) = some u)
    (h : wpList P ops Q rest (a.put o.dst (.string ⟨l.toArray⟩)) w) : wpList P ops Q (o :: rest) a w := by
  refine wpList_plain hgd fun K hK => ?_
  have hr := run_string_O (P := P) w src dst e A n c l hs he hd hn hc
  unfold Oper.wp execOp
  simp only [ho, Sem.run_bind, hx, hr, Sem.run_pure, Result.andThen_ok, Oper.upon]
  exact hK _ _ h
end
end Go.Chz
