/-
  A part of the proof of a statement of a chapter's seat; conditions: stated at each theorem.
-/
import Derived.Test.YtgbddbiimffplaaN3
import Derived.Test.YtgbddbiimffplaaAzR
set_option linter.unusedVariables false
set_option linter.unusedSectionVars false
set_option linter.unusedSimpArgs false
set_option linter.unusedVariables false
set_option maxRecDepth 100000
set_option maxHeartbeats 8000000
namespace Go.Proofs.Ytgbddbiimffplaa
open Go.Az Go
/-! ### The step -/
theorem pow_z (n : Nat) : (2 : Int) ^ n = ((2 ^ n : Nat) : Int) := by simp
theorem stp_int (z : Nat) : ((stpN z : Nat) : Int) = (z : Int) / 2 + (z : Int) / 8 + 3 := by unfold stpN; omega
theorem step34 (n : Nat) (h0 : 5 ≤ n) (h : n ≤ 12) : ACalls Try.prog 52 [I n] [] (fun r _ => r = I (stpN (2 ^ n)) ∧ r.sc 0 = true) := by
  have hz := okZ_pos (okZ_of h0 h)
  have e := pow_z n
  refine acalls_of_wk hm Try.func52 rfl ?_
  simp only [Try.ntmps52, List.length_cons, List.length_nil, Nat.reduceAdd, Nat.reduceSub, List.reduceReplicate, List.cons_append, List.nil_append]
  show wk _ _ none _ _ ⟨_, []⟩ _
  with_reducible refine s_seq ?_
  with_reducible refine s_reg ?_
  refine sassign ?_
  simp only [pu', p0', c1', c0', i1', z0', b8_nat]
  with_reducible refine s_end ?_
  with_reducible refine s_then ?_
  with_reducible refine s_seq ?_
  with_reducible refine s_reg ?_
  refine smove ?_
  simp only [pu', p0', c1', c0', i1', z0', b8_nat]
  refine sshl1 ?_
  simp only [pu', p0', c1', c0', i1', z0', b8_nat]
  refine sassign ?_
  simp only [pu', p0', c1', c0', i1', z0', b8_nat]
  with_reducible refine s_end ?_
  with_reducible refine s_then ?_
  with_reducible refine s_seq ?_
  with_reducible refine s_reg ?_
  refine smove ?_
  simp only [pu', p0', c1', c0', i1', z0', b8_nat]
  refine sshr1 ?_
  simp only [pu', p0', c1', c0', i1', z0', b8_nat]
  refine smove ?_
  simp only [pu', p0', c1', c0', i1', z0', b8_nat]
  refine sshr ?_
  simp only [pu', p0', c1', c0', i1', z0', b8_nat]
  refine sadd ?_
  simp only [pu', p0', c1', c0', i1', z0', b8_nat]
  refine sadd ?_
  simp only [pu', p0', c1', c0', i1', z0', b8_nat]
  refine sassign ?_
  simp only [pu', p0', c1', c0', i1', z0', b8_nat]
  with_reducible refine s_end ?_
  with_reducible refine s_then ?_
  with_reducible refine s_ret ?_
  all_goals try with_reducible refine w_n ?_
  all_goals refine w_1 rfl (by first | exact v_t (by rfl) | exact v_c1 (C1.p) (by rfl) (HA.p) (by rfl) | exact v_cF (CA.p) (by rfl) (HA.p) (by rfl)) ?_
  refine ⟨?_, rfl⟩
  rw [stp_int, e]
  rfl
def stpE (L : Int) : Int := if L < 5 ∨ 12 < L then 2 else 0
def stpR (L : Int) : Int := if L < 5 ∨ 12 < L then 0 else stpN (2 ^ L.toNat)
/-! ### The symbols of the cells, as the document says it -/
def rarB (z n : Nat) : List Bool := List.replicate (z - n) false ++ List.replicate n true
theorem dE_ok {L : Int} {ps : List Int} (h : dE L ps = 0) : ∃ n : Nat, L = n ∧ 5 ≤ n ∧ n ≤ 12 ∧ DistOk (2 ^ n) ps ∧ 1 ≤ ps.length ∧ ps.length ≤ 256 ∧ ps.getD (ps.length - 1) 0 ≠ 0 := by
  by_cases hL : L < 5 ∨ 12 < L
  · rw [dE_31 hL] at h; omega
  · refine ⟨L.toNat, by omega, by omega, by omega, ?_⟩
    by_cases h1 : ps.length < 1 ∨ 256 < ps.length ∨ ps.getD (ps.length - 1) 0 = 0 ∨ (¬ ∀ x ∈ ps, -1 ≤ x) ∨ ptsF ps ≠ 2 ^ L.toNat
    · rw [dE_23 hL h1] at h; omega
    · refine ⟨⟨okZ_of (by omega) (by omega), ?_, ?_⟩, by omega, by omega, fun e => h1 (.inr (.inr (.inl e)))⟩
      · exact Classical.not_not.1 fun e => h1 (.inr (.inr (.inr (.inl e))))
      · rw [← pow_z]
        exact Classical.not_not.1 fun e => h1 (.inr (.inr (.inr (.inr e))))
/-- How far the rare symbols are after some symbols. -/
theorem rar_len {z : Nat} {ps : List Int} (h : DistOk z ps) (i : Nat) : (rarF (ps.take i) 0).length + (symF (ps.take i) 0).length ≤ z ∧ (symF (ps.take i) 0).length ≤ (symF ps 0).length ∧ (rarF (ps.take i) 0).length ≤ (rarF ps 0).length := by
  have h1 := pts_split (ps.take i) 0 (fun x hx => h.ge x (List.mem_of_mem_take hx))
  have h2 := ptsF_take_le ps i
  have h3 := h.sum
  have key : ∀ (a b : List Int) (s : Int), symF (a ++ b) s = symF a s ++ symF b (s + a.length) ∧ rarF (a ++ b) s = rarF a s ++ rarF b (s + a.length) := by
    intro a
    induction a with
    | nil => intro b s; simp [symF, rarF]
    | cons x a ih =>
      intro b s
      have := ih b (s + 1)
      rw [List.cons_append, symF, symF, rarF, rarF, this.1, this.2, List.length_cons, List.append_assoc, show s + 1 + (a.length : Int) = s + ((a.length + 1 : Nat) : Int) by omega]
      refine ⟨rfl, ?_⟩
      split <;> rfl
  have h4 := key (ps.take i) (ps.drop i) 0
  rw [List.take_append_drop] at h4
  refine ⟨by omega, ?_, ?_⟩
  · rw [h4.1, List.length_append]; omega
  · rw [h4.2, List.length_append]; omega
end Go.Proofs.Ytgbddbiimffplaa
