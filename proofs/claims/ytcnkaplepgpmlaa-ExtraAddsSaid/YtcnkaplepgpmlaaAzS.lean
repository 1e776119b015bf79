/-
  A runner over abstract memory, for closed inputs, and that what it says is a contract ('run_acalls'). Conditions: stated at each theorem.
-/
import Derived.Test.YtcnkaplepgpmlaaAzR
import Derived.LoopNIn
set_option linter.unusedSimpArgs false
set_option linter.unusedVariables false
namespace Go.Az
open Go Go.Chz Go.RowKit

/-! ### Sameness that can be reckoned -/
def sameV : Value → Value → Bool
  | .bool a, .bool b => a == b
  | .int k a, .int k' b => decide (k = k') && decide (a = b)
  | .string a, .string b => leq a.data.toList b.data.toList
  | .pointer none, .pointer none => true
  | .slice none n c, .slice none n' c' => Nat.beq n n' && Nat.beq c c'
  | _, _ => false
theorem sameV_eq {a b : Value} (h : sameV a b = true) : a = b := by
  unfold sameV at h
  split at h
  · simp at h; rw [h]
  · simp at h; rw [h.1, h.2]
  · rename_i a b
    rw [leq_iff] at h
    simp only [decide_eq_true_eq] at h
    have : a = b := ByteArray.ext (Array.ext' h)
    rw [this]
  · rfl
  · simp only [Bool.and_eq_true, Nat.beq_eq] at h; rw [h.1, h.2]
  · cases h
def sameA : AV → AV → Bool
  | .v a, .v b => sameV a b
  | .ptr i o, .ptr i' o' => Nat.beq i i' && Nat.beq o o'
  | .sl i o n c u, .sl i' o' n' c' u' => Nat.beq i i' && Nat.beq o o' && Nat.beq n n' && Nat.beq c c' && (u == u')
  | .mp i, .mp i' => Nat.beq i i'
  | .yld i, .yld i' => Nat.beq i i'
  | _, _ => false
theorem sameA_eq {a b : AV} (h : sameA a b = true) : a = b := by
  unfold sameA at h
  split at h
  · rw [sameV_eq h]
  · simp only [Bool.and_eq_true, Nat.beq_eq] at h; rw [h.1, h.2]
  · simp only [Bool.and_eq_true, Nat.beq_eq, beq_iff_eq] at h; obtain ⟨⟨⟨⟨h1, h2⟩, h3⟩, h4⟩, h5⟩ := h; rw [h1, h2, h3, h4, h5]
  · simp only [Nat.beq_eq] at h; rw [h]
  · simp only [Nat.beq_eq] at h; rw [h]
  · cases h
def sameL : List AV → List AV → Bool
  | [], [] => true
  | a :: r, b :: s => sameA a b && sameL r s
  | _, _ => false
theorem sameL_eq : ∀ {a b : List AV}, sameL a b = true → a = b
  | [], [], _ => rfl
  | [], _ :: _, h => by cases h
  | _ :: _, [], h => by cases h
  | a :: r, b :: s, h => by
    simp only [sameL, Bool.and_eq_true] at h
    rw [sameA_eq h.1, sameL_eq h.2]
def sameM : List (Value × AV × Nat) → List (Value × AV × Nat) → Bool
  | [], [] => true
  | a :: r, b :: s => sameV a.1 b.1 && sameA a.2.1 b.2.1 && Nat.beq a.2.2 b.2.2 && sameM r s
  | _, _ => false
theorem sameM_eq : ∀ {a b : List (Value × AV × Nat)}, sameM a b = true → a = b
  | [], [], _ => rfl
  | [], _ :: _, h => by cases h
  | _ :: _, [], h => by cases h
  | (a1, a2, a3) :: r, (b1, b2, b3) :: s, h => by
    simp only [sameM, Bool.and_eq_true, Nat.beq_eq] at h
    obtain ⟨⟨⟨h1, h2⟩, h3⟩, h4⟩ := h
    rw [sameV_eq h1, sameA_eq h2, h3, sameM_eq h4]
def sameO : AObj → AObj → Bool
  | .cells cs t o, .cells cs' t' o' => Nat.beq t t' && (o == o') && sameL cs cs'
  | .map es c, .map es' c' => Nat.beq c c' && sameM es es'
  | .gone, .gone => true
  | _, _ => false
theorem sameO_eq {a b : AObj} (h : sameO a b = true) : a = b := by
  unfold sameO at h
  split at h
  · simp only [Bool.and_eq_true, Nat.beq_eq, beq_iff_eq] at h; obtain ⟨⟨h1, h2⟩, h3⟩ := h; rw [h1, h2, sameL_eq h3]
  · simp only [Bool.and_eq_true, Nat.beq_eq] at h; rw [h.1, sameM_eq h.2]
  · rfl
  · cases h

/-! ### What an operation reads -/
def readsOf (f : Fr) (op : Op) : List Nat :=
  match op with
  | .load _ a => match ev f a with
    | .ptr i _ => [i]
    | _ => []
  | .convert _ _ x => match ev f x with
    | .sl i _ _ _ _ => [i]
    | _ => []
  | .slice _ x _ _ _ => match ev f x with
    | .sl i _ _ _ _ => [i]
    | _ => []
  | .lookup _ x _ _ => match ev f x with
    | .mp i => [i]
    | _ => []
  | _ => []
/-- What is named alone. -/
def keepH (l : List Nat) (h : Hp) : Hp := h.zipIdx.map fun p => if l.contains p.2 then p.1 else .gone
theorem keepH_length (l : List Nat) (h : Hp) : (keepH l h).length = h.length := by simp [keepH]
theorem keepH_get (l : List Nat) (h : Hp) (i : Nat) : (keepH l h)[i]? = (h[i]?).map fun o => if l.contains i then o else .gone := by
  simp only [keepH, List.getElem?_map, List.getElem?_zipIdx, Option.map_map, Nat.zero_add]
  rfl
theorem cnv_reads {P : Program} {h h' : Hp} {s d : TypeId} {x : AV} (hg : ∀ i o n c u, x = .sl i o n c u → h'[i]? = h[i]?) : cnv P h' s d x = cnv P h s d x := by
  cases x with
  | sl i o n c u => have e := hg i o n c u rfl; clear hg; unfold cnv; split <;> simp_all
  | v u => unfold cnv; split <;> simp_all
  | _ => unfold cnv; split <;> simp_all
theorem slc_reads {P : Program} {h h' : Hp} {t : TypeId} {x : AV} {lo hi mx : Option AV} (hg : ∀ i o n c u, x = .sl i o n c u → h'[i]? = h[i]?) : slc P h' t x lo hi mx = slc P h t x lo hi mx := by
  cases x with
  | sl i o n c u => have e := hg i o n c u rfl; clear hg; unfold slc capOk; split <;> simp_all
  | v u => unfold slc; split <;> simp_all
  | _ => unfold slc; split <;> simp_all
theorem lkp_reads {P : Program} {h h' : Hp} {t : TypeId} {x k : AV} {ok : Bool} (hg : ∀ i, x = .mp i → h'[i]? = h[i]?) : lkp P h' t x k ok = lkp P h t x k ok := by
  cases x with
  | mp i => have e := hg i rfl; clear hg; unfold lkp; split <;> simp_all
  | v u => unfold lkp; split <;> simp_all
  | _ => unfold lkp; split <;> simp_all
theorem exL_reads {P : Program} {f : Fr} {h h' : Hp} {op : Op} {v : AV} (hr : exL P f h op = some v) (hg : ∀ i ∈ readsOf f op, h'[i]? = h[i]?) : exL P f h' op = some v := by
  unfold exL at hr ⊢
  cases op <;> first | exact hr | skip
  · rename_i t a
    simp only [readsOf] at hg
    simp only at hr ⊢
    split at hr <;> first | (cases hr; done) | skip
    rename_i i o ha
    rw [ha] at hg
    simp only at hg ⊢
    simp only [ldc] at hr ⊢
    rw [hg i (by simp)]; exact hr
  · rename_i s d x
    simp only [readsOf] at hg
    refine (cnv_reads fun i o n c u e => ?_).trans hr
    rw [e] at hg; exact hg i (by simp)
  · rename_i t x lo hi mx
    simp only [readsOf] at hg
    refine (slc_reads fun i o n c u e => ?_).trans hr
    rw [e] at hg; exact hg i (by simp)
  · rename_i t x k ok
    simp only [readsOf] at hg
    refine (lkp_reads fun i e => ?_).trans hr
    rw [e] at hg; exact hg i (by simp)
end Go.Az
