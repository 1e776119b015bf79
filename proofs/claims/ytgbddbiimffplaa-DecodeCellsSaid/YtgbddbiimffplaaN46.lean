/-
  A part of the proof of a statement of a chapter's seat; conditions: stated at each theorem.
-/
import Derived.Test.YtgbddbiimffplaaN45
set_option linter.unusedVariables false
set_option linter.unusedSectionVars false
set_option linter.unusedSimpArgs false
set_option linter.unusedVariables false
set_option maxRecDepth 100000
set_option maxHeartbeats 8000000
namespace Go.Proofs.Ytgbddbiimffplaa
open Go.Az Go
/-! ### The document's normalization, of few and small counts -/
def totF (l : List Int) : Nat → Int
  | 0 => 0
  | i + 1 => totF l i + l.getD i 0
def disF (l : List Int) : Nat → Int
  | 0 => 0
  | i + 1 => if 0 < l.getD i 0 then disF l i + 1 else disF l i
structure SmC (l : List Int) : Prop where
  len : l.length ≤ 14
  len2 : 2 ≤ l.length
  bd : ∀ i, i < l.length → 0 ≤ l.getD i 0 ∧ l.getD i 0 ≤ 40
  c0 : l.getD 0 0 = 1
  c1 : l.getD 1 0 = 1
theorem tot_bd {l : List Int} (h : SmC l) : ∀ i, i ≤ l.length → 0 ≤ totF l i ∧ totF l i ≤ 40 * i
  | 0, _ => by simp [totF]
  | i + 1, hi => by
    have h1 := tot_bd h i (by omega)
    have h2 := h.bd i (by omega)
    rw [totF]; push_cast; omega
theorem tot_two {l : List Int} (h : SmC l) : 2 ≤ totF l l.length := by
  have hm : ∀ i, 2 ≤ i → i ≤ l.length → 2 ≤ totF l i := by
    intro i h2
    induction i with
    | zero => omega
    | succ i ih =>
      intro hi
      have hb := h.bd i (by omega)
      by_cases e : i = 1
      · subst e
        show 2 ≤ (0 : Int) + l.getD 0 0 + l.getD 1 0
        rw [h.c0, h.c1]; decide
      · have := ih (by omega) (by omega)
        rw [totF]; omega
  exact hm _ h.len2 (Nat.le_refl _)
theorem dis_bd (l : List Int) : ∀ i, 0 ≤ disF l i ∧ disF l i ≤ i
  | 0 => by simp [disF]
  | i + 1 => by
    have h1 := dis_bd l i
    rw [disF]; push_cast; split <;> omega
/-- What remains right while probabilities are made less. -/
structure NrP (l ps : List Int) (z : Int) : Prop where
  len : ps.length ≤ l.length
  two : 2 ≤ ps.length
  ge : ∀ i, i < ps.length → -1 ≤ ps.getD i 0 ∧ ps.getD i 0 ≤ 100000
  nz : ∀ i, i < ps.length → 0 < l.getD i 0 → ps.getD i 0 ≠ 0
  last : 0 < l.getD (ps.length - 1) 0
theorem pts_set : ∀ (ps : List Int) (i : Nat) (v : Int), i < ps.length → ptsF (ps.set i v) = ptsF ps - baseN (ps.getD i 0) + baseN v
  | [], i, v, h => by simp at h
  | x :: ps, 0, v, h => by
    simp only [List.set_cons_zero, List.getD_cons_zero, ptsF, baseN]; omega
  | x :: ps, i + 1, v, h => by
    simp only [List.set_cons_succ, List.getD_cons_succ, ptsF]
    rw [pts_set ps i v (by simpa using h)]; omega
theorem pts_most : ∀ (ps : List Int) (m : Int), 1 ≤ m → (∀ i, i < ps.length → ps.getD i 0 ≤ m) → ptsF ps ≤ m * ps.length
  | [], m, _, _ => by simp [ptsF]
  | x :: ps, m, hm, h => by
    have h1 := pts_most ps m hm fun i hi => h (i + 1) (by simpa using hi)
    have h2 := h 0 (by simp)
    rw [List.getD_cons_zero] at h2
    rw [ptsF, List.length_cons]
    push_cast
    rw [Int.mul_add, Int.mul_one]
    split <;> omega
theorem pts_pair (ps : List Int) {i j : Nat} (hij : i < j) (hj : j < ps.length) : baseN (ps.getD i 0) + baseN (ps.getD j 0) ≤ ptsF ps := by
  have e1 := ptsF_take (l := ps) (i := j) hj
  have e2 := ptsF_take (l := ps) (i := i) (by omega)
  have l1 := ptsF_take_le ps (j + 1)
  have l2 : ptsF (ps.take (i + 1)) ≤ ptsF (ps.take j) := by
    have := ptsF_take_le (ps.take j) (i + 1)
    rwa [List.take_take, Nat.min_eq_left (by omega)] at this
  have l3 := ptsF_nn (ps.take i)
  unfold baseN
  omega
theorem baseN_pos {p : Int} (h : -1 ≤ p) (h2 : p ≠ 0) : 1 ≤ baseN p := by unfold baseN; split <;> omega
theorem nr_less {l ps : List Int} {z : Int} (h : NrP l ps z) (hl : l.length ≤ 14) (hz : 32 ≤ z) (hs : z < ptsF ps) {b : Nat} (hb : b < ps.length) (hm : ∀ i, i < ps.length → ps.getD i 0 ≤ ps.getD b 0) :
    3 ≤ ps.getD b 0 ∧ NrP l (ps.set b (ps.getD b 0 - 1)) z ∧ ptsF (ps.set b (ps.getD b 0 - 1)) = ptsF ps - 1 := by
  have hb3 : 3 ≤ ps.getD b 0 := by
    apply Classical.byContradiction
    intro hn
    have := pts_most ps 2 (by omega) fun i hi => by have := hm i hi; omega
    have := h.len
    omega
  have hg := h.ge b hb
  refine ⟨hb3, ⟨by simpa using h.len, by simpa using h.two, fun i hi => ?_, fun i hi hc => ?_, by simpa using h.last⟩, ?_⟩
  · rw [List.length_set] at hi
    rw [set_get]
    have := h.ge i hi
    split <;> omega
  · rw [List.length_set] at hi
    rw [set_get]
    have := h.nz i hi hc
    split <;> omega
  · rw [pts_set _ _ _ hb, baseN, baseN, if_neg (by omega), if_neg (by omega)]; omega
theorem nr_more {l ps : List Int} {z : Int} (h : NrP l ps z) {b : Nat} (hb : b < ps.length) (hlb : 0 < l.getD b 0) {x : Int} (hx : 0 < x) (hx2 : x ≤ 1000) (hbd : ps.getD b 0 ≤ 60000) : NrP l (ps.set b (baseN (ps.getD b 0) + x)) z ∧ ptsF (ps.set b (baseN (ps.getD b 0) + x)) = ptsF ps + x := by
  have hg := h.ge b hb
  have h1 : 1 ≤ baseN (ps.getD b 0) ∧ baseN (ps.getD b 0) ≤ 60000 := ⟨baseN_pos hg.1 (h.nz b hb hlb), by unfold baseN; split <;> omega⟩
  refine ⟨⟨by simpa using h.len, by simpa using h.two, fun i hi => ?_, fun i hi hc => ?_, by simpa using h.last⟩, ?_⟩
  · rw [List.length_set] at hi
    rw [set_get]
    have := h.ge i hi
    split <;> omega
  · rw [List.length_set] at hi
    rw [set_get]
    have := h.nz i hi hc
    split <;> omega
  · rw [pts_set _ _ _ hb]
    have : baseN (baseN (ps.getD b 0) + x) = baseN (ps.getD b 0) + x := by
      rw [baseN, if_neg (by omega)]
    omega
theorem nr_end {l ps : List Int} {L : Nat} (h : NrP l ps (2 ^ L)) (hl : SmC l) (h5 : 5 ≤ L) (h7 : L ≤ 9) (hs : ptsF ps = 2 ^ L) : dE L ps = 0 ∧ ∀ i, i < ps.length → baseN (ps.getD i 0) < 2 ^ L := by
  have h1 := h.len
  have h2 := hl.len
  have h3 := h.two
  have n0 := h.nz 0 (by omega) (by rw [hl.c0]; decide)
  have n1 := h.nz 1 (by omega) (by rw [hl.c1]; decide)
  have g0 := h.ge 0 (by omega)
  have g1 := h.ge 1 (by omega)
  have hln := h.nz (ps.length - 1) (by omega) h.last
  refine ⟨?_, fun i hi => ?_⟩
  · rw [dE, if_neg (by omega), if_neg]
    rw [Int.toNat_natCast]
    have hall : ∀ x ∈ ps, -1 ≤ x := fun x hx => by
      obtain ⟨i, hi, e⟩ := List.getElem_of_mem hx
      have := (h.ge i hi).1
      rw [List.getD_eq_getElem?_getD, List.getElem?_eq_getElem hi, Option.getD_some, e] at this
      exact this
    rintro (hh | hh | hh | hh | hh)
    · omega
    · omega
    · exact hln hh
    · exact hh hall
    · exact hh hs
  · rw [← hs]
    have b0 := baseN_pos g0.1 n0
    have b1 := baseN_pos g1.1 n1
    by_cases e : i = 0
    · subst e
      have := pts_pair ps (i := 0) (j := 1) (by omega) (by omega)
      omega
    · have := pts_pair ps (i := 0) (j := i) (by omega) hi
      omega
end Go.Proofs.Ytgbddbiimffplaa
