/-
  A part of the proof of a statement of a chapter's seat; conditions: stated at each theorem.
-/
import Derived.Test.YtgbddbiimffplaaN4
set_option linter.unusedVariables false
set_option linter.unusedSectionVars false
set_option linter.unusedSimpArgs false
set_option linter.unusedVariables false
set_option maxRecDepth 100000
set_option maxHeartbeats 8000000
namespace Go.Proofs.Ytgbddbiimffplaa
open Go.Az Go
structure RoA where
  k : Nat
  G : Hp
structure RoB where
  i : Nat
  t : Nat
  G : Hp
structure RoC where
  j : Nat
  t : Nat
  G : Hp
def ofL (L : Int) (ps : List Int) : List Int := if dE L ps = 0 then sprd (2 ^ L.toNat) ps else []
/-- The cells after k symbols, j more of the next one, t steps on. -/
def ofS (z : Nat) (ps : List Int) (k j t : Nat) : List Int := put (rarO z (rarF ps 0)) (vis z (symF ps 0).length t) (symF (ps.take k) 0 ++ List.replicate j (k : Int))
theorem ofS_next {z : Nat} {ps : List Int} {k j t : Nat} (hp : posN z t < (symF ps 0).length) (hl : (vis z (symF ps 0).length t).length = (symF (ps.take k) 0).length + j) : (ofS z ps k j t).set (posN z t) (k : Int) = ofS z ps k (j + 1) (t + 1) := by
  unfold ofS
  rw [vis_go hp, List.replicate_succ', ← List.append_assoc, put_snoc _ _ _ _ _ (by rw [hl, List.length_append, List.length_replicate])]
theorem ofS_skip {z : Nat} {ps : List Int} {k j t : Nat} (hp : ¬ posN z t < (symF ps 0).length) : ofS z ps k j t = ofS z ps k j (t + 1) := by
  unfold ofS
  rw [vis_no hp]
theorem ofS_sym {z : Nat} {ps : List Int} {k j t : Nat} (hk : k < ps.length) (hj : j = (ps.getD k 0).toNat) : ofS z ps k j t = ofS z ps (k + 1) 0 t := by
  unfold ofS
  rw [symF_take _ _ _ hk, Int.zero_add, ← hj, List.replicate_zero, List.append_nil]
theorem put_nil (o : List Int) (cs : List Nat) : put o cs [] = o := by cases cs <;> rfl
theorem ofS_end {z : Nat} {ps : List Int} {k t : Nat} (hk : ps.length ≤ k) (ht : t = z ∨ (symF ps 0).length = 0) : ofS z ps k 0 t = sprd z ps := by
  unfold ofS sprd
  rw [List.take_of_length_le hk, List.replicate_zero, List.append_nil]
  rcases ht with h | h
  · rw [h]
  · have : symF ps 0 = [] := List.eq_nil_of_length_eq_zero h
    rw [this, put_nil, put_nil]
theorem ofS_len {z : Nat} {ps : List Int} (h : DistOk z ps) (k j t : Nat) : (ofS z ps k j t).length = z := by
  have := h.split
  rw [ofS, put_len, rarO_len (by omega)]
/-- Where the walk stands. -/
structure Wlk (z : Nat) (ps : List Int) (k j t : Nat) : Prop where
  le : t ≤ z
  len : (vis z (symF ps 0).length t).length = (symF (ps.take k) 0).length + j
  free : (symF ps 0).length = 0 ∨ posN z t < (symF ps 0).length
theorem Wlk.lt {z : Nat} {ps : List Int} {k j t : Nat} (w : Wlk z ps k j t) (h : DistOk z ps) (hk : k < ps.length) (hj : (j : Int) < ps.getD k 0) : posN z t < (symF ps 0).length ∧ t < z := by
  have hs := h.split
  have h1 := rar_len h (k + 1)
  rw [symF_take _ _ _ hk, List.length_append, List.length_replicate] at h1
  have hp : posN z t < (symF ps 0).length := by
    rcases w.free with h2 | h2
    · omega
    · exact h2
  refine ⟨hp, vis_lt (m := (symF ps 0).length) h.okz (by omega) w.le (by rw [w.len]; omega)⟩
theorem Wlk.done {z : Nat} {ps : List Int} {k t : Nat} (w : Wlk z ps k 0 t) (h : DistOk z ps) (hk : ps.length ≤ k) : t = z ∨ (symF ps 0).length = 0 := by
  have hs := h.split
  rcases w.free with h2 | h2
  · exact .inr h2
  · left
    refine Classical.byContradiction fun hn => ?_
    have hlt := w.le
    have h3 := vis_more h.okz (m := (symF ps 0).length) (by omega) (show t < z by omega) h2
    have h4 := w.len
    rw [List.take_of_length_le hk] at h4
    omega
theorem Wlk.sym {z : Nat} {ps : List Int} {k j t : Nat} (w : Wlk z ps k j t) (hk : k < ps.length) (hj : j = (ps.getD k 0).toNat) : Wlk z ps (k + 1) 0 t := by
  refine ⟨w.le, ?_, w.free⟩
  rw [w.len, symF_take _ _ _ hk, List.length_append, List.length_replicate]
  omega
theorem Wlk.zero {z : Nat} {ps : List Int} : Wlk z ps 0 0 0 := ⟨Nat.zero_le _, rfl, by rw [pos_zero]; omega⟩
end Go.Proofs.Ytgbddbiimffplaa
