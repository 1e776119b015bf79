/-
  A region that draws its order, with operations that others come behind of: an operation whose value is the same until one that must come behind it was done may be reckoned first; where several may come first, each is looked at. Conditions: stated at each theorem.
-/
import Derived.Test.YthhbhekccacmlaaAzN
set_option linter.unusedSimpArgs false
set_option linter.unusedVariables false
namespace Go.Az
open Go Go.Chz Go.RowKit

/-! ### What an operation reads -/
def readsOf (f : Fr) (op : Op) : List Nat :=
  match op with
  | .load _ a => match ev f a with
    | .ptr i _ => [i]
    | _ => []
  | .convert _ _ x => match ev f x with
    | .sl i _ _ _ _ => [i]
    | _ => []
  | .slice _ x _ _ _ => match ev f x with
    | .sl i _ _ _ _ => [i]
    | _ => []
  | .lookup _ x _ _ => match ev f x with
    | .mp i => [i]
    | _ => []
  | _ => []
/-- What is named alone. -/
def keepH (l : List Nat) (h : Hp) : Hp := h.zipIdx.map fun p => if l.contains p.2 then p.1 else .gone
theorem keepH_length (l : List Nat) (h : Hp) : (keepH l h).length = h.length := by simp [keepH]
theorem keepH_get (l : List Nat) (h : Hp) (i : Nat) : (keepH l h)[i]? = (h[i]?).map fun o => if l.contains i then o else .gone := by
  simp only [keepH, List.getElem?_map, List.getElem?_zipIdx, Option.map_map, Nat.zero_add]
  rfl
theorem cnv_reads {P : Program} {h h' : Hp} {s d : TypeId} {x : AV} (hg : ∀ i o n c u, x = .sl i o n c u → h'[i]? = h[i]?) : cnv P h' s d x = cnv P h s d x := by
  cases x with
  | sl i o n c u => have e := hg i o n c u rfl; clear hg; unfold cnv; split <;> simp_all
  | v u => unfold cnv; split <;> simp_all
  | _ => unfold cnv; split <;> simp_all
theorem slc_reads {P : Program} {h h' : Hp} {t : TypeId} {x : AV} {lo hi mx : Option AV} (hg : ∀ i o n c u, x = .sl i o n c u → h'[i]? = h[i]?) : slc P h' t x lo hi mx = slc P h t x lo hi mx := by
  cases x with
  | sl i o n c u => have e := hg i o n c u rfl; clear hg; unfold slc capOk; split <;> simp_all
  | v u => unfold slc; split <;> simp_all
  | _ => unfold slc; split <;> simp_all
theorem lkp_reads {P : Program} {h h' : Hp} {t : TypeId} {x k : AV} {ok : Bool} (hg : ∀ i, x = .mp i → h'[i]? = h[i]?) : lkp P h' t x k ok = lkp P h t x k ok := by
  cases x with
  | mp i => have e := hg i rfl; clear hg; unfold lkp; split <;> simp_all
  | v u => unfold lkp; split <;> simp_all
  | _ => unfold lkp; split <;> simp_all
theorem exL_reads {P : Program} {f : Fr} {h h' : Hp} {op : Op} {v : AV} (hr : exL P f h op = some v) (hg : ∀ i ∈ readsOf f op, h'[i]? = h[i]?) : exL P f h' op = some v := by
  unfold exL at hr ⊢
  cases op <;> first | exact hr | skip
  · rename_i t a
    simp only [readsOf] at hg
    simp only at hr ⊢
    split at hr <;> first | (cases hr; done) | skip
    rename_i i o ha
    rw [ha] at hg
    simp only at hg ⊢
    simp only [ldc] at hr ⊢
    rw [hg i (by simp)]; exact hr
  · rename_i s d x
    simp only [readsOf] at hg
    refine (cnv_reads fun i o n c u e => ?_).trans hr
    rw [e] at hg; exact hg i (by simp)
  · rename_i t x lo hi mx
    simp only [readsOf] at hg
    refine (slc_reads fun i o n c u e => ?_).trans hr
    rw [e] at hg; exact hg i (by simp)
  · rename_i t x k ok
    simp only [readsOf] at hg
    refine (lkp_reads fun i e => ?_).trans hr
    rw [e] at hg; exact hg i (by simp)

/-! ### Orders as trees -/
inductive Ord where
  | done
  | light (i : Nat) (r : Ord)
  | alt (i : Nat) (gone : List Nat) (r rest : Ord)
  | no
def Ord.heads : Ord → List Nat
  | .alt i _ _ rest => i :: rest.heads
  | _ => []
def Ord.size : Ord → Nat
  | .light _ r => r.size + 1
  | .alt _ _ r rest => max (r.size + 1) rest.size
  | _ => 0
/-- An operation of the list that must come behind i was done. -/
def beh (ops : Array Oper) (hv : List Nat) (l : Array Bool) (i : Nat) : Bool := hv.any fun j => l.getD j false && (match ops[j]? with
  | some o => o.after.any fun e => Region.binds .any e && Nat.beq e.on i
  | none => false)
theorem getD_set_same (l : Array Bool) (i : Nat) : (l.setIfInBounds i true).getD i true = true := by
  by_cases h : i < l.size <;> simp [Array.getD, h]
theorem getD_set_other {l : Array Bool} {i j : Nat} (d : Bool) (h : i ≠ j) : (l.setIfInBounds i true).getD j d = l.getD j d := by
  by_cases hj : j < l.size <;> simp [Array.getD, hj, Array.getElem_setIfInBounds, h]
theorem beh_mono {ops : Array Oper} {hv : List Nat} {l l' : Array Bool} {i : Nat} (hl : ∀ j, l.getD j false = true → l'.getD j false = true) (h : beh ops hv l i = true) : beh ops hv l' i = true := by
  unfold beh at *
  rw [List.any_eq_true] at *
  obtain ⟨j, hj, h⟩ := h
  rw [Bool.and_eq_true] at h
  exact ⟨j, hj, by rw [hl j h.1, h.2]; rfl⟩
theorem set_mono (l : Array Bool) (i : Nat) : ∀ j, l.getD j false = true → (l.setIfInBounds i true).getD j false = true := by
  intro j h
  by_cases e : i = j
  · subst e
    by_cases hi : i < l.size
    · simp [Array.getD, hi]
    · simp [Array.getD, hi] at h
  · rw [getD_set_other false e]; exact h
theorem beh_set {ops : Array Oper} {hv : List Nat} {l : Array Bool} {i j : Nat} (hl : beh ops hv l i = false) (hj : ∀ oj, ops[j]? = some oj → ∀ e ∈ oj.after, Region.binds .any e = true → e.on ≠ i) : beh ops hv (l.setIfInBounds j true) i = false := by
  cases h : beh ops hv (l.setIfInBounds j true) i with
  | false => rfl
  | true =>
    unfold beh at h
    rw [List.any_eq_true] at h
    obtain ⟨q, hq, h⟩ := h
    rw [Bool.and_eq_true] at h
    by_cases e : j = q
    · subst e
      cases ho : ops[j]? with
      | none => rw [ho] at h; cases h.2
      | some oj =>
        rw [ho] at h
        have h3 : oj.after.any (fun e => Region.binds .any e && Nat.beq e.on i) = true := h.2
        obtain ⟨x, hx, h2⟩ := Array.any_eq_true.1 h3
        simp only [Bool.and_eq_true, Nat.beq_eq] at h2
        exact absurd h2.2 (hj oj ho _ (Array.getElem_mem hx) h2.1)
    · rw [getD_set_other false e] at h
      have : beh ops hv l i = true := by
        unfold beh
        rw [List.any_eq_true]
        exact ⟨q, hq, by rw [Bool.and_eq_true]; exact h⟩
      rw [hl] at this; cases this
/-- A light operation's being done changes nothing of that. -/
theorem beh_light {ops : Array Oper} {hv : List Nat} {l : Array Bool} {i q : Nat} (hi : hv.contains i = false) : beh ops hv (l.setIfInBounds i true) q = beh ops hv l q := by
  unfold beh
  have : ∀ hv : List Nat, hv.contains i = false → (hv.any fun j => (l.setIfInBounds i true).getD j false && (match ops[j]? with | some o => o.after.any fun e => Region.binds .any e && Nat.beq e.on q | none => false)) = (hv.any fun j => l.getD j false && (match ops[j]? with | some o => o.after.any fun e => Region.binds .any e && Nat.beq e.on q | none => false)) := by
    intro hv
    induction hv with
    | nil => intro _; rfl
    | cons x r ih =>
      intro h
      simp only [List.contains_cons, Bool.or_eq_false_iff] at h
      simp only [List.any_cons]
      rw [ih h.2, getD_set_other false (by simpa using h.1)]
  exact this hv hi

section
variable {ro : Option Nat} {n : Nat} {P : Program} {ops : Array Oper} {Q : Exit → Act → World → Prop}
/-- Whatever order; S holds behind every operation, by what was done. -/
def AnyT (ro : Option Nat) (n : Nat) (P : Program) (ops : Array Oper) (Q : Exit → Act → World → Prop) (S : Array Bool → World → Prop) : Nat → Array Bool → Act → World → Prop
  | 0, l, a, w => Region.ready .any ops l = [] ∧ Q .normal a w
  | k + 1, l, a, w => (Region.ready .any ops l = [] → Q .normal a w) ∧ ∀ i ∈ Region.ready .any ops l, wpOpIn (Wd ro) n P ops Q i (fun a' w' => S (l.setIfInBounds i true) w' ∧ AnyT ro n P ops Q S k (l.setIfInBounds i true) a' w') a w
theorem any_of_T {S : Array Bool → World → Prop} : ∀ (k : Nat) (l : Array Bool) (a : Act) (w : World), AnyT ro n P ops Q S k l a w → wpAnyIn (Wd ro) n P .any ops Q k l a w
  | 0, _, _, _, h => h
  | k + 1, _, _, _, h => ⟨h.1, fun i hi => wpOpIn_mono (fun a' w' h' => any_of_T k _ a' w' h'.2) (h.2 i hi)⟩
theorem AnyT.more {S : Array Bool → World → Prop} : ∀ (k : Nat) (l : Array Bool) (a : Act) (w : World), AnyT ro n P ops Q S k l a w → AnyT ro n P ops Q S (k + 1) l a w
  | 0, l, a, w, h => ⟨fun _ => h.2, fun i hi => by rw [h.1] at hi; cases hi⟩
  | k + 1, l, a, w, h => ⟨h.1, fun i hi => wpOpIn_mono (fun a' w' h' => ⟨h'.1, AnyT.more k _ a' w' h'.2⟩) (h.2 i hi)⟩
theorem AnyT.le {S : Array Bool → World → Prop} {k k' : Nat} (hk : k ≤ k') {l : Array Bool} {a : Act} {w : World} (h : AnyT ro n P ops Q S k l a w) : AnyT ro n P ops Q S k' l a w := by
  induction hk with
  | refl => exact h
  | step _ ih => exact AnyT.more _ l a w ih

/-- Reckoned first. -/
theorem AnyT.first {i : Nat} {oi : Oper} {v : Value} {hv : List Nat} {S : Array Bool → World → Prop} {M : World → Prop} (hi : ops[i]? = some oi) (hsel : Region.noSelect ops = true) (hdf : noDefer ops = true) (hQ : ∀ c a w, ¬ Q (.panic c) a w)
    (hvi : hv.contains i = false) (hlow : ∀ l w, S (l.setIfInBounds i true) w ↔ S l w) :
    ∀ (k : Nat) (l : Array Bool) (a : Act) (w : World),
      (∀ j oj, ops[j]? = some oj → j ≠ i → l.getD j true = false → (∀ e ∈ oj.after, Region.binds .any e = true → e.on ≠ i) → oi.apart ops oj = true) →
      i ∈ Region.ready .any ops l → beh ops hv l i = false → Gives P ops M oi v a → M w → S l w → AnyT ro n P ops Q (fun l w => S l w ∧ (beh ops hv l i = true ∨ M w)) k (l.setIfInBounds i true) (a.put oi.dst v) w → AnyT ro n P ops Q S (k + 1) l a w := by
  intro k
  have lose : ∀ (k : Nat) (l : Array Bool) (a : Act) (w : World), AnyT ro n P ops Q (fun l w => S l w ∧ (beh ops hv l i = true ∨ M w)) k l a w → AnyT ro n P ops Q S k l a w := by
    intro k
    induction k with
    | zero => exact fun l a w h => h
    | succ k ih => exact fun l a w h => ⟨h.1, fun j hj => wpOpIn_mono (fun a' w' h' => ⟨h'.1.1, ih _ a' w' h'.2⟩) (h.2 j hj)⟩
  induction k with
  | zero =>
    intro l a w _ hr hb hy hM hS h
    refine ⟨fun h0 => (by rw [h0] at hr; cases hr), fun j hj => ?_⟩
    rcases Nat.decEq j i with hji | hji
    · have := ready_mono hj hji
      rw [h.1] at this; cases this
    · subst hji
      exact hy.now hi (noDefer_spec hdf hi) hM ⟨(hlow l w).2 hS, h⟩
  | succ k ih =>
    intro l a w hfree hr hb hy hM hS h
    refine ⟨fun h0 => (by rw [h0] at hr; cases hr), fun j hj => ?_⟩
    rcases Nat.decEq j i with hji | hji
    · obtain ⟨hun, oj, hoj, hall⟩ := mem_ready.1 hj
      have hli := (mem_ready.1 hr).1
      have hno : ∀ e ∈ oj.after, Region.binds .any e = true → e.on ≠ i := by
        intro e he hb heq
        have h1 := hall e he hb
        rw [heq] at h1
        by_cases hlt : i < l.size
        · simp only [Array.getD, hlt, dif_pos] at h1 hli
          rw [h1] at hli; cases hli
        · simp only [Array.getD, hlt, dif_neg, not_false_eq_true] at h1; cases h1
      have hbj : beh ops hv (l.setIfInBounds j true) i = false := beh_set hb fun oj' ho' => by rw [hoj] at ho'; injection ho' with ho'; subst ho'; exact hno
      have h2 := wpOpIn_behind (i := i) hoj (hfree j oj hoj hji hun hno) (Region.noSelect_spec hsel i oi · · hi) (Region.noSelect_spec hsel j oj · · hoj) (noDefer_spec hdf hoj) hQ hy (h.2 j (ready_mono hj hji))
      refine wpOpIn_mono (fun a' w' h3 => ?_) h2
      have hc := Array.setIfInBounds_comm (xs := l) true true hji
      obtain ⟨h4, ⟨h5, h6⟩, h7⟩ := h3
      rw [← hc] at h5 h6 h7
      have hM' : M w' := by
        rcases h6 with h6 | h6
        · rw [beh_light hvi, hbj] at h6; cases h6
        · exact h6
      have hS' := (hlow _ _).1 h5
      refine ⟨hS', ih (l.setIfInBounds j true) a' w' ?_ (ready_mono hr (Ne.symm hji)) hbj h4 hM' hS' h7⟩
      intro q oq hq hqi hunq hnoq
      refine hfree q oq hq hqi ?_ hnoq
      by_cases hjq : j = q
      · subst hjq; exact hun
      · rw [getD_set_ne true hjq] at hunq; exact hunq
    · subst hji
      exact hy.now hi (noDefer_spec hdf hi) hM ⟨(hlow l w).2 hS, lose _ _ _ _ h⟩

/-! ### Trees that fit the region's edges -/
def ordT (ops : Array Oper) (hv : List Nat) : Ord → Bool → Array Bool → Bool
  | .done, t, l => t && (Region.ready .any ops l).isEmpty
  | .no, t, _ => !t
  | .light i r, t, l => t && (ops[i]?).isSome && !hv.contains i && !beh ops hv l i && Region.free .any ops l i && (Region.ready .any ops l).contains i && ordT ops hv r true (l.setIfInBounds i true)
  | .alt i gone r rest, t, l => (!t || Region.ready .any ops l == i :: rest.heads) && (ops[i]?).isSome && gone.all (fun q => beh ops hv (l.setIfInBounds i true) q) && ordT ops hv r true (l.setIfInBounds i true) && ordT ops hv rest false l
def ordTok (ops : Array Oper) (hv : List Nat) (T : Ord) : Bool := Region.noSelect ops && noDefer ops && Nat.ble T.size ops.size && ordT ops hv T true (Array.replicate ops.size false)
/-- The walk along the tree. -/
def alongT (ro : Option Nat) (n : Nat) (P : Program) (ops : Array Oper) (hv : List Nat) (Q : Exit → Act → World → Prop) : Ord → (Array Bool → World → Prop) → Array Bool → Act → World → Prop
  | .done, _, _, a, w => Q .normal a w
  | .no, _, _, _, _ => True
  | .light i r, S, l, a, w => ∃ o v, ∃ M : World → Prop, ops[i]? = some o ∧ Gives P ops M o v a ∧ M w ∧ alongT ro n P ops hv Q r (fun l w => S l w ∧ (beh ops hv l i = true ∨ M w)) (l.setIfInBounds i true) (a.put o.dst v) w
  | .alt i _ r rest, S, l, a, w => wpOpIn (Wd ro) n P ops Q i (fun a' w' => S (l.setIfInBounds i true) w' ∧ alongT ro n P ops hv Q r S (l.setIfInBounds i true) a' w') a w ∧ alongT ro n P ops hv Q rest S l a w
/-- S looks at nothing but what must come behind what. -/
def LowS (hv : List Nat) (S : Array Bool → World → Prop) : Prop := ∀ i, hv.contains i = false → ∀ l w, S (l.setIfInBounds i true) w ↔ S l w
theorem any_of_alongT {hv : List Nat} (hsel : Region.noSelect ops = true) (hdf : noDefer ops = true) (hQ : ∀ c a w, ¬ Q (.panic c) a w) :
    ∀ (T : Ord) (t : Bool) (S : Array Bool → World → Prop) (l : Array Bool) (a : Act) (w : World), LowS hv S → ordT ops hv T t l = true → S l w → alongT ro n P ops hv Q T S l a w →
      if t = true then AnyT ro n P ops Q S T.size l a w else ∀ i ∈ T.heads, wpOpIn (Wd ro) n P ops Q i (fun a' w' => S (l.setIfInBounds i true) w' ∧ AnyT ro n P ops Q S (T.size - 1) (l.setIfInBounds i true) a' w') a w
  | .done, t, S, l, a, w, hL, hc, hS, h => by
    simp only [ordT, Bool.and_eq_true] at hc
    rw [if_pos hc.1]
    exact ⟨by simpa using hc.2, h⟩
  | .no, t, S, l, a, w, hL, hc, hS, h => by
    simp only [ordT, Bool.not_eq_true'] at hc
    rw [if_neg (by rw [hc]; simp)]
    intro i hi; cases hi
  | .light i r, t, S, l, a, w, hL, hc, hS, h => by
    obtain ⟨o, v, M, ho, hg, hM, hr⟩ := h
    simp only [ordT, Bool.and_eq_true, Bool.not_eq_true'] at hc
    obtain ⟨⟨⟨⟨⟨⟨ht, _⟩, hvi⟩, hb⟩, hf⟩, hrd⟩, hc⟩ := hc
    rw [if_pos ht]
    have hL' : LowS hv (fun l w => S l w ∧ (beh ops hv l i = true ∨ M w)) := fun q hq l w => by
      show _ ∧ _ ↔ _ ∧ _
      rw [hL q hq l w, beh_light hq]
    have ih := any_of_alongT hsel hdf hQ r true _ _ _ _ hL' hc ⟨(hL i hvi l w).2 hS, .inr hM⟩ hr
    rw [if_pos rfl] at ih
    exact AnyT.first ho hsel hdf hQ hvi (hL i hvi) r.size l a w (Region.free_spec ho hf) (by simpa using hrd) hb hg hM hS ih
  | .alt i gone r rest, t, S, l, a, w, hL, hc, hS, h => by
    simp only [ordT, Bool.and_eq_true] at hc
    obtain ⟨⟨⟨⟨h1, _⟩, _⟩, h2⟩, h3⟩ := hc
    have key : ∀ j ∈ (Ord.alt i gone r rest).heads, wpOpIn (Wd ro) n P ops Q j (fun a' w' => S (l.setIfInBounds j true) w' ∧ AnyT ro n P ops Q S ((Ord.alt i gone r rest).size - 1) (l.setIfInBounds j true) a' w') a w := by
      intro j hj
      rcases List.mem_cons.1 hj with rfl | hj
      · refine wpOpIn_mono (fun a' w' h' => ⟨h'.1, ?_⟩) h.1
        have ih := any_of_alongT hsel hdf hQ r true S _ _ _ hL h2 h'.1 h'.2
        rw [if_pos rfl] at ih
        exact AnyT.le (by simp only [Ord.size]; omega) ih
      · have ih := any_of_alongT hsel hdf hQ rest false S l a w hL h3 hS h.2
        rw [if_neg (by simp)] at ih
        exact wpOpIn_mono (fun a' w' h' => ⟨h'.1, AnyT.le (by simp only [Ord.size]; omega) h'.2⟩) (ih j hj)
    cases t with
    | false => rw [if_neg (by simp)]; exact key
    | true =>
      rw [if_pos rfl]
      simp only [Bool.not_true, Bool.false_or, beq_iff_eq] at h1
      have e : (Ord.alt i gone r rest).size = ((Ord.alt i gone r rest).size - 1) + 1 := by simp only [Ord.size]; omega
      rw [e]
      exact ⟨fun h0 => (by rw [h1] at h0; cases h0), fun j hj => key j (by rw [h1] at hj; exact hj)⟩
theorem wp_drawT {id : Nat} {a : Act} {w : World} {hv : List Nat} (T : Ord) (hm : P.follows .mixedOrders = true) (hc : ordTok ops hv T = true) (hQ : ∀ c a w, ¬ Q (.panic c) a w) (h : alongT ro n P ops hv Q T (fun _ _ => True) (Array.replicate ops.size false) a w.drew) :
    (Code.region id ops true).wpIn (Wd ro) n P Q a w := by
  simp only [ordTok, Bool.and_eq_true, Nat.ble_eq] at hc
  obtain ⟨⟨⟨h1, h2⟩, h3⟩, h4⟩ := hc
  refine wpIn_region_any hm ?_
  have := any_of_alongT (hv := hv) h1 h2 hQ T true (fun _ _ => True) _ a _ (fun _ _ _ _ => Iff.rfl) h4 trivial h
  rw [if_pos rfl] at this
  exact any_of_T _ _ _ _ (AnyT.le h3 this)
end
end Go.Az
