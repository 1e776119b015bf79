/-
  A runner over abstract memory, for closed inputs, and that what it says is a contract ('run_acalls'). Conditions: stated at each theorem.
-/
import Derived.Test.YthhbhekccacmlaaAzR
import Derived.LoopNIn
set_option linter.unusedSimpArgs false
set_option linter.unusedVariables false
namespace Go.Az
open Go Go.Chz Go.RowKit

/-! ### Sameness that can be reckoned -/
def sameV : Value → Value → Bool
  | .bool a, .bool b => a == b
  | .int k a, .int k' b => decide (k = k') && decide (a = b)
  | .string a, .string b => leq a.data.toList b.data.toList
  | .pointer none, .pointer none => true
  | .slice none n c, .slice none n' c' => Nat.beq n n' && Nat.beq c c'
  | _, _ => false
theorem sameV_eq {a b : Value} (h : sameV a b = true) : a = b := by
  unfold sameV at h
  split at h
  · simp at h; rw [h]
  · simp at h; rw [h.1, h.2]
  · rename_i a b
    rw [leq_iff] at h
    simp only [decide_eq_true_eq] at h
    have : a = b := ByteArray.ext (Array.ext' h)
    rw [this]
  · rfl
  · simp only [Bool.and_eq_true, Nat.beq_eq] at h; rw [h.1, h.2]
  · cases h
def sameA : AV → AV → Bool
  | .v a, .v b => sameV a b
  | .ptr i o, .ptr i' o' => Nat.beq i i' && Nat.beq o o'
  | .sl i o n c u, .sl i' o' n' c' u' => Nat.beq i i' && Nat.beq o o' && Nat.beq n n' && Nat.beq c c' && (u == u')
  | .mp i, .mp i' => Nat.beq i i'
  | .yld i, .yld i' => Nat.beq i i'
  | _, _ => false
theorem sameA_eq {a b : AV} (h : sameA a b = true) : a = b := by
  unfold sameA at h
  split at h
  · rw [sameV_eq h]
  · simp only [Bool.and_eq_true, Nat.beq_eq] at h; rw [h.1, h.2]
  · simp only [Bool.and_eq_true, Nat.beq_eq, beq_iff_eq] at h; obtain ⟨⟨⟨⟨h1, h2⟩, h3⟩, h4⟩, h5⟩ := h; rw [h1, h2, h3, h4, h5]
  · simp only [Nat.beq_eq] at h; rw [h]
  · simp only [Nat.beq_eq] at h; rw [h]
  · cases h
def sameL : List AV → List AV → Bool
  | [], [] => true
  | a :: r, b :: s => sameA a b && sameL r s
  | _, _ => false
theorem sameL_eq : ∀ {a b : List AV}, sameL a b = true → a = b
  | [], [], _ => rfl
  | [], _ :: _, h => by cases h
  | _ :: _, [], h => by cases h
  | a :: r, b :: s, h => by
    simp only [sameL, Bool.and_eq_true] at h
    rw [sameA_eq h.1, sameL_eq h.2]
def sameM : List (Value × AV × Nat) → List (Value × AV × Nat) → Bool
  | [], [] => true
  | a :: r, b :: s => sameV a.1 b.1 && sameA a.2.1 b.2.1 && Nat.beq a.2.2 b.2.2 && sameM r s
  | _, _ => false
theorem sameM_eq : ∀ {a b : List (Value × AV × Nat)}, sameM a b = true → a = b
  | [], [], _ => rfl
  | [], _ :: _, h => by cases h
  | _ :: _, [], h => by cases h
  | (a1, a2, a3) :: r, (b1, b2, b3) :: s, h => by
    simp only [sameM, Bool.and_eq_true, Nat.beq_eq] at h
    obtain ⟨⟨⟨h1, h2⟩, h3⟩, h4⟩ := h
    rw [sameV_eq h1, sameA_eq h2, h3, sameM_eq h4]
def sameO : AObj → AObj → Bool
  | .cells cs t o, .cells cs' t' o' => Nat.beq t t' && (o == o') && sameL cs cs'
  | .map es c, .map es' c' => Nat.beq c c' && sameM es es'
  | .gone, .gone => true
  | _, _ => false
theorem sameO_eq {a b : AObj} (h : sameO a b = true) : a = b := by
  unfold sameO at h
  split at h
  · simp only [Bool.and_eq_true, Nat.beq_eq, beq_iff_eq] at h; obtain ⟨⟨h1, h2⟩, h3⟩ := h; rw [h1, h2, sameL_eq h3]
  · simp only [Bool.and_eq_true, Nat.beq_eq] at h; rw [h.1, sameM_eq h.2]
  · rfl
  · cases h

end Go.Az
