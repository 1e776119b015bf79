/-
  A part of the proof of a statement of a chapter's seat; conditions: stated at each theorem.
-/
import Derived.Test.YtgbddbiimffplaaN44
set_option linter.unusedVariables false
set_option linter.unusedSectionVars false
set_option linter.unusedSimpArgs false
set_option linter.unusedVariables false
set_option maxRecDepth 100000
set_option maxHeartbeats 8000000
namespace Go.Proofs.Ytgbddbiimffplaa
open Go.Az Go
/-! ### The ranges of a symbol's cells, one behind the other -/
theorem hi_pos {x : Int} (h : 1 ≤ x) : ∃ k : Nat, hiF x = k ∧ (2 : Int) ^ k ≤ x ∧ x < 2 ^ (k + 1) := by
  have e : hiF x = Nat.log2 x.toNat := by unfold hiF; rw [if_neg (by omega)]
  have g1 := Nat.log2_self_le (n := x.toNat) (by omega)
  have g2 := Nat.lt_log2_self (n := x.toNat)
  have p1 := pow_z (Nat.log2 x.toNat)
  have p2 := pow_z (Nat.log2 x.toNat + 1)
  exact ⟨_, e, by omega, by omega⟩
theorem hi_uniq {x : Int} {k : Nat} (h1 : (2 : Int) ^ k ≤ x) (h2 : x < 2 ^ (k + 1)) : hiF x = k := by
  have p1 := pow_z k
  have p2 := pow_z (k + 1)
  have h3 := hi_lt (n := x) (k := k + 1) h2 (by omega)
  have h0 : 0 < 2 ^ k := Nat.pow_pos (by omega)
  obtain ⟨j, e, h4, h5⟩ := hi_pos (x := x) (by omega)
  have : k < j + 1 := by
    have p3 := pow_z (j + 1)
    refine (Nat.pow_lt_pow_iff_right (a := 2) (by omega)).1 ?_
    omega
  omega
/-- Where the range of the number x of a symbol with p cells begins, those that begin anew one whole later. -/
def posX (n p x : Int) : Int := if hiF x = hiF p then x * 2 ^ (n - hiF p).toNat - 2 ^ n.toNat else x * 2 ^ (n - hiF p - 1).toNat
theorem two_mul_pow (k : Nat) (x : Int) : x * 2 ^ (k + 1) = 2 * (x * 2 ^ k) := by
  rw [Int.pow_succ, Int.mul_comm (2 ^ k) 2, ← Int.mul_assoc, ← Int.mul_assoc, Int.mul_comm x 2]
structure PosF (n : Nat) (p x : Int) : Prop where
  le : posX n p p ≤ posX n p x
  st : posX n p (x + 1) = posX n p x + 2 ^ ((n : Int) - hiF x).toNat
  up : posX n p (x + 1) ≤ posX n p p + 2 ^ n
  bs : x * 2 ^ ((n : Int) - hiF x).toNat - 2 ^ n = if posX n p x < 2 ^ n then posX n p x else posX n p x - 2 ^ n
  fit : posX n p x < 2 ^ n → posX n p (x + 1) ≤ 2 ^ n
theorem pos_end' {n : Nat} {p : Int} (h1 : 1 ≤ p) (h2 : p < 2 ^ n) : posX n p (2 * p) = posX n p p + 2 ^ n ∧ 0 ≤ posX n p p ∧ posX n p p < 2 ^ n := by
  obtain ⟨k, e, g1, g2⟩ := hi_pos h1
  have hkn : k < n := by
    have p1 := pow_z k
    have p2 := pow_z n
    refine (Nat.pow_lt_pow_iff_right (a := 2) (by omega)).1 ?_
    omega
  have e2 : hiF (2 * p) = ((k + 1 : Nat) : Int) := hi_uniq (by rw [Int.pow_succ]; omega) (by rw [Int.pow_succ] at g2 ⊢; omega)
  obtain ⟨m, rfl⟩ : ∃ m : Nat, n = k + (m + 1) := ⟨n - k - 1, by omega⟩
  unfold posX
  rw [if_neg (by omega), if_pos rfl, e]
  rw [show ((((k + (m + 1) : Nat) : Int)) - (k : Int)).toNat = m + 1 by omega, show ((((k + (m + 1) : Nat) : Int)) - (k : Int) - 1).toNat = m by omega, Int.toNat_natCast, two_mul_pow, Int.mul_assoc]
  have e3 := hi_pow (n := k + (m + 1)) h1 (by omega)
  rw [e, show ((((k + (m + 1) : Nat) : Int)) - (k : Int)).toNat = m + 1 by omega, two_mul_pow] at e3
  omega
theorem pos_step {n : Nat} {p x : Int} (h1 : 1 ≤ p) (h2 : p < 2 ^ n) (hx1 : p ≤ x) (hx2 : x < 2 * p) : PosF n p x := by
  obtain ⟨k, e, g1, g2⟩ := hi_pos h1
  have hkn : k < n := by
    have p1 := pow_z k
    have p2 := pow_z n
    refine (Nat.pow_lt_pow_iff_right (a := 2) (by omega)).1 ?_
    omega
  obtain ⟨he, h0, h00⟩ := pos_end' h1 h2
  obtain ⟨m, rfl⟩ : ∃ m : Nat, n = k + (m + 1) := ⟨n - k - 1, by omega⟩
  have q1 : ((((k + (m + 1) : Nat) : Int)) - (k : Int)).toNat = m + 1 := by omega
  have q2 : ((((k + (m + 1) : Nat) : Int)) - (k : Int) - 1).toNat = m := by omega
  have q3 : ((((k + (m + 1) : Nat) : Int)) - ((k + 1 : Nat) : Int)).toNat = m := by omega
  have pk : (2 : Int) ^ (k + 1) = 2 * 2 ^ k := by rw [Int.pow_succ]; omega
  have pk2 : (2 : Int) ^ (k + 1 + 1) = 2 * 2 ^ (k + 1) := by rw [Int.pow_succ]; omega
  have pz : ((2 : Int) ^ (k + 1)) * 2 ^ m = 2 ^ (k + (m + 1)) := by rw [← Int.pow_add]; congr 1; omega
  have hm0 : (1 : Int) ≤ 2 ^ m := by have := pow_z m; have := Nat.pow_pos (n := m) (show 0 < 2 by omega); omega
  have lowX : ∀ y : Int, p ≤ y → y < 2 ^ (k + 1) → hiF y = k ∧ posX ((k + (m + 1) : Nat) : Int) p y = 2 * (y * 2 ^ m) - 2 ^ (k + (m + 1)) := fun y a b => by
    have ey : hiF y = k := hi_uniq (by omega) b
    refine ⟨ey, ?_⟩
    unfold posX
    rw [if_pos (by omega), e, q1, Int.toNat_natCast, two_mul_pow]
  have highX : ∀ y : Int, 2 ^ (k + 1) ≤ y → y ≤ 2 * p → hiF y = ((k + 1 : Nat) : Int) ∧ posX ((k + (m + 1) : Nat) : Int) p y = y * 2 ^ m := fun y a b => by
    have ey : hiF y = ((k + 1 : Nat) : Int) := hi_uniq a (by omega)
    refine ⟨ey, ?_⟩
    unfold posX
    rw [if_neg (by omega), e, q2]
  have mono : ∀ y z : Int, y ≤ z → y * 2 ^ m ≤ z * 2 ^ m := fun y z h => Int.mul_le_mul_of_nonneg_right h (by omega)
  have ep := lowX p (Int.le_refl _) g2
  have m1 := mono p x hx1
  have m2 := mono (x + 1) (2 * p) (by omega)
  have a1 : (x + 1) * 2 ^ m = x * 2 ^ m + 2 ^ m := by rw [Int.add_mul, Int.one_mul]
  have a2 : 2 * p * 2 ^ m = 2 * (p * 2 ^ m) := Int.mul_assoc _ _ _
  by_cases hc : x + 1 < 2 ^ (k + 1)
  · have ex := lowX x hx1 (by omega)
    have ex1 := lowX (x + 1) (by omega) hc
    have m3 := mono (x + 1) (2 ^ (k + 1)) (by omega)
    refine ⟨?_, ?_, ?_, ?_, ?_⟩
    · omega
    · rw [ex.1, q1, Int.pow_succ]; omega
    · omega
    · rw [ex.1, q1, two_mul_pow, if_pos (by omega)]; omega
    · omega
  · by_cases hc2 : x < 2 ^ (k + 1)
    · have ex := lowX x hx1 hc2
      have ex1 := highX (x + 1) (by omega) (by omega)
      have e1 : x + 1 = 2 ^ (k + 1) := by omega
      have e2 : (x + 1) * 2 ^ m = 2 ^ (k + (m + 1)) := by rw [e1]; exact pz
      refine ⟨?_, ?_, ?_, ?_, ?_⟩
      · omega
      · rw [ex.1, q1, Int.pow_succ]; omega
      · omega
      · rw [ex.1, q1, two_mul_pow, if_pos (by omega)]; omega
      · omega
    · have ex := highX x (by omega) (by omega)
      have ex1 := highX (x + 1) (by omega) (by omega)
      have m4 := mono (2 ^ (k + 1)) x (by omega)
      refine ⟨?_, ?_, ?_, ?_, ?_⟩
      · omega
      · rw [ex.1, q3]; omega
      · omega
      · rw [ex.1, q3, if_neg (by omega)]; omega
      · omega
/-- How often each state was met: those from a to q, and these one whole later. -/
def hitF (z a q : Int) (i : Nat) : Int := if (a ≤ i ∧ (i : Int) < q) ∨ (a ≤ i + z ∧ (i : Int) + z < q) then 1 else 0
def hitL (z : Nat) (a q : Int) : List Int := tabL (hitF z a q) z
theorem hit_len (z : Nat) (a q : Int) : (hitL z a q).length = z := tab_len _ _
theorem hit_zero {z : Nat} {a : Int} (h : 0 ≤ a) : hitL z a a = List.replicate z 0 := by
  refine List.ext_getElem (by simp [hit_len]) fun i h1 h2 => ?_
  have := tab_at (hitF z a a) (n := z) (i := i) (by simpa using h2)
  rw [List.getElem_replicate]
  rw [hitL] at h1
  rw [List.getD_eq_getElem?_getD, List.getElem?_eq_getElem h1] at this
  simp only [hitL]
  rw [Option.getD_some] at this
  rw [this, hitF, if_neg (by omega)]
theorem hit_at {z : Nat} {a q : Int} {i : Nat} (h0 : 0 ≤ a) (ha : a < z) (h1 : a ≤ q) (h2 : q < a + z) (hi : (i : Int) = if q < z then q else q - z) : i < z ∧ (hitL z a q).getD i 0 = 0 ∧ (hitL z a q).set i 1 = hitL z a (q + 1) := by
  have hiz : i < z := by split at hi <;> omega
  refine ⟨hiz, ?_, ?_⟩
  · rw [hitL, tab_at _ hiz, hitF, if_neg]
    split at hi <;> omega
  · refine tab_set _ _ _ _ _ (fun j hj hne => ?_) (fun _ => ?_)
    · unfold hitF
      have : ((a ≤ (j : Int) ∧ (j : Int) < q) ∨ (a ≤ (j : Int) + z ∧ (j : Int) + z < q)) ↔ ((a ≤ (j : Int) ∧ (j : Int) < q + 1) ∨ (a ≤ (j : Int) + z ∧ (j : Int) + z < q + 1)) := by
        split at hi <;> omega
      simp only [this]
    · unfold hitF
      rw [if_pos]
      split at hi <;> omega
theorem hit_end {z : Nat} {a : Int} {i : Nat} (h0 : 0 ≤ a) (ha : a < z) (hi : i < z) : (hitL z a (a + z)).getD i 0 = 1 := by
  rw [hitL, tab_at _ hi, hitF, if_pos (by omega)]
end Go.Proofs.Ytgbddbiimffplaa
