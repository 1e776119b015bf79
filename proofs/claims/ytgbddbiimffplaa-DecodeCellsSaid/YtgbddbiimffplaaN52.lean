/-
  A part of the proof of a statement of a chapter's seat; conditions: stated at each theorem.
-/
import Derived.Test.YtgbddbiimffplaaN49
set_option linter.unusedVariables false
set_option linter.unusedSectionVars false
set_option linter.unusedSimpArgs false
set_option linter.unusedVariables false
set_option maxRecDepth 100000
set_option maxHeartbeats 8000000
namespace Go.Proofs.Ytgbddbiimffplaa
open Go.Az Go
/-! ### How many cells a symbol has, and its first one -/
def nonF (z p c : Int) : Int := if z < p + c then p + c - z else 0
theorem non_step {L : Nat} {T : List Ce} {p : Int} {k i : Nat} (hp : 1 ≤ p) (hlt : p < 2 ^ L) (f : RgF L T p k i) : ((T.getD i ce0).b = 0 → nonF (2 ^ L) p (symC T k (i + 1)) = nonF (2 ^ L) p (symC T k i) + 1) ∧ ((T.getD i ce0).b ≠ 0 → nonF (2 ^ L) p (symC T k (i + 1)) = nonF (2 ^ L) p (symC T k i)) := by
  have h1 := f.hi
  have h2 := f.sy
  have h3 := f.lt
  have h4 := sy_nn T k i
  obtain ⟨j, e, g1, g2⟩ := hi_pos (x := p + symC T k i) (by omega)
  have pl : (2 : Int) ^ (L + 1) = 2 * 2 ^ L := by rw [Int.pow_succ]; omega
  refine ⟨fun hb => ?_, fun hb => ?_⟩
  · have : j = L := by omega
    subst this
    unfold nonF
    rw [if_pos (by omega)]
    split <;> omega
  · have hn : ¬ (2 : Int) ^ L ≤ p + symC T k i := fun hh => by
      have := hi_uniq (x := p + symC T k i) (k := L) hh (by omega)
      omega
    unfold nonF
    rw [if_neg (by omega), if_neg (by omega)]
theorem sy_mono (T : List Ce) (k i : Nat) : symC T k i ≤ symC T k T.length := by
  have h1 := ctI_take_le (T.map fun c => c.s) i k
  rw [symC, symC, List.take_of_length_le (i := T.length) (by rw [List.length_map]; exact Nat.le_refl _)]
  exact h1
theorem sy_none {T : List Ce} {k : Nat} (h : symC T k T.length = 0) : ∀ i, i < T.length → (T.getD i ce0).s ≠ k := fun i hi e => by
  have h1 := sy_hit hi e
  have h2 := sy_nn T k i
  have h3 := sy_mono T k (i + 1)
  omega
theorem fnd_none {T : List Ce} {y : Int} (h : ∀ i, i < T.length → (T.getD i ce0).s ≠ y) : ∀ n i, n + i = T.length → fnd T y n i = (0, 7)
  | 0, i, _ => rfl
  | n + 1, i, hn => by
    rw [fnd, syA, if_neg (h i (by omega))]
    exact fnd_none h n (i + 1) (by omega)
theorem fnd_some {T : List Ce} {k : Nat} : ∀ n i, n + i = T.length → symC T k i = 0 → 1 ≤ symC T k T.length → ∃ j : Nat, j < T.length ∧ fnd T k n i = ((j : Int), 0) ∧ (T.getD j ce0).s = k ∧ symC T k j = 0
  | 0, i, hn, h0, h1 => by
    obtain rfl : i = T.length := by omega
    omega
  | n + 1, i, hn, h0, h1 => by
    rw [fnd, syA]
    by_cases hs : (T.getD i ce0).s = k
    · rw [if_pos hs]
      exact ⟨i, by omega, rfl, hs, h0⟩
    · rw [if_neg hs]
      exact fnd_some n (i + 1) (by omega) (by rw [sy_miss (by omega) hs]; exact h0) h1
theorem fst_no {n : Nat} {ps : List Int} (he : dE n ps = 0) {k : Nat} (hk : k < ps.length) (h0 : ps.getD k 0 = 0) : fstQ (dcQ n ps) k = (0, 7) := by
  rw [fstQ, if_pos (chk_right he)]
  have := sy_end he hk
  rw [h0] at this
  exact fnd_none (sy_none this) _ 0 (by omega)
theorem fst_yes {n : Nat} {ps : List Int} (he : dE n ps = 0) {k : Nat} (hk : k < ps.length) (h0 : ps.getD k 0 ≠ 0) (hlt : baseN (ps.getD k 0) < 2 ^ n) : ∃ j : Nat, j < (dcQ n ps).length ∧ fstQ (dcQ n ps) k = ((j : Int), 0) ∧ ((dcQ n ps).getD j ce0).s = k ∧ ((dcQ n ps).getD j ce0).b = (n : Int) - hiF (baseN (ps.getD k 0)) := by
  obtain ⟨h5, h12, hp1, hp2, hlast, hok⟩ := dE_okN he
  have hge := hok.ge _ (getD_mem hk)
  have hb : 1 ≤ baseN (ps.getD k 0) := by unfold baseN; split <;> omega
  rw [fstQ, if_pos (chk_right he)]
  obtain ⟨j, h1, h2, h3, h4⟩ := fnd_some (T := dcQ n ps) (k := k) (dcQ n ps).length 0 (by omega) (sy_zero _ _) (by rw [sy_end he hk]; exact hb)
  have f := rg_of he hk hlt h1 h3
  have := f.hi
  rw [h4, Int.add_zero] at this
  exact ⟨j, h1, h2, h3, this⟩
end Go.Proofs.Ytgbddbiimffplaa
