/-
  A part of the proof of a statement of a chapter's seat; conditions: stated at each theorem.
-/
import Derived.Test.YtckljanplahbkaaM4
set_option linter.unusedVariables false
set_option linter.unusedSectionVars false
set_option linter.unusedSimpArgs false
set_option linter.unusedVariables false
set_option maxRecDepth 100000
set_option maxHeartbeats 4000000
namespace Go.Proofs.Ytckljanplahbkaa
open Go.Az Go
theorem rowEA {X : Hp} {i : Nat} {m : Int} {l : List Int} {k : Nat} (hi : HA X i (.cells (rowC m l l.length) 63 true)) (hk : k ≤ l.length) (hl : l.length ≤ 256) : TI X (.sl i 0 k k false) ((trn m l).take k) := by
  refine .inr ⟨i, 0, k, false, rowC m l l.length, 63, true, by rw [List.length_take, trn_len, Nat.min_eq_left hk], hi.p, ?_, ?_⟩
  · rw [rowC_len m l _ (Nat.le_refl _) hl, List.length_take, trn_len]; omega
  · rw [List.drop_zero, List.length_take, trn_len, Nat.min_eq_left hk, Nat.mul_one, encI_map]
    unfold rowC
    rw [List.take_length, List.take_append_of_le_length (by simp [trn]; exact hk), List.map_take]
end Go.Proofs.Ytckljanplahbkaa
