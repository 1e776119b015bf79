/-
  A part of the proof of a statement of a chapter's seat; conditions: stated at each theorem.
-/
import Derived.Test.YthhbhekccacmlaaH8
set_option linter.unusedSimpArgs false
set_option linter.unusedVariables false
set_option linter.unusedSectionVars false
set_option maxRecDepth 100000
set_option maxHeartbeats 4000000
namespace Go.Proofs.Ythhbhekccacmlaa
open Go.Az Go
/-! ### What begins, as the document says it (plain) -/
def fnd (R : List UInt8) : Nat → Int
  | 0 => if R.take (min R.length 4) = (le4 4247762216).take (min R.length 4) then 2 else 4
  | k + 1 => if R.take (min R.length 4) = (le4 (407710288 + (k : Int))).take (min R.length 4) then 1 else fnd R k
theorem fnd_1 {R : List UInt8} : ∀ {n k : Nat}, k < n → R.take (min R.length 4) = (le4 (407710288 + (k : Int))).take (min R.length 4) → fnd R n = 1
  | n + 1, k, hk, h => by
    rw [fnd]
    split
    · rfl
    · rename_i hn
      refine fnd_1 (n := n) (k := k) ?_ h
      by_cases he : k = n
      · subst he; exact absurd h hn
      · omega
theorem fnd_0 {R : List UInt8} : ∀ {n : Nat}, (∀ k, k < n → ¬ R.take (min R.length 4) = (le4 (407710288 + (k : Int))).take (min R.length 4)) → fnd R n = fnd R 0
  | 0, _ => rfl
  | n + 1, h => by
    have e : fnd R (n + 1) = fnd R n := if_neg (h n (by omega))
    rw [e]
    exact fnd_0 fun k hk => h k (by omega)
theorem fnd_cases (R : List UInt8) : ∀ n, fnd R n = 1 ∨ fnd R n = 2 ∨ fnd R n = 4
  | 0 => by rw [fnd]; split <;> omega
  | n + 1 => by
    rw [fnd]
    split
    · omega
    · exact fnd_cases R n
theorem tk4 {R : List UInt8} (h : 4 ≤ R.length) {x : Int} (h0 : 0 ≤ x) (h1 : x < 4294967296) : R.take 4 = le4 x ↔ num4 R = x := by
  constructor
  · intro e
    have := num4_le4 x h0 h1 (R.drop 4)
    rw [← e, List.take_append_drop] at this
    exact this
  · intro e
    rw [← e, le4_num4 R h]
theorem le4_data : le4 4247762216 = [40, 181, 47, 253] := by decide
theorem le4_least : le4 407710288 = [80, 42, 77, 24] := by decide
theorem fnd_beg {R : List UInt8} (hR : R ≠ []) : (if fnd R 16 ≠ 4 ∧ R.length < 4 then 3 else fnd R 16) = beg R := by
  by_cases h4 : 4 ≤ R.length
  · rw [if_neg (by omega)]
    have hm : min R.length 4 = 4 := by omega
    have q := num4_rng R
    have e4 : ∀ x, (le4 x).take 4 = le4 x := fun x => rfl
    by_cases h1 : num4 R - num4 R % 16 = 407710288
    · rw [bg_1 h4 h1]
      refine fnd_1 (k := (num4 R % 16).toNat) (by omega) ?_
      rw [hm, e4]
      exact (tk4 h4 (by omega) (by omega)).2 (by omega)
    · have h0 : fnd R 16 = fnd R 0 := fnd_0 fun k hk e => by
        rw [hm, e4] at e
        have := (tk4 h4 (by omega) (by omega)).1 e
        omega
      rw [h0, fnd, hm, e4]
      by_cases h2 : num4 R = 4247762216
      · rw [if_pos ((tk4 h4 (by omega) (by omega)).2 h2), bg_2 h4 h2]
      · rw [if_neg (fun e => h2 ((tk4 h4 (by omega) (by omega)).1 e)), bg_4 h4 h2 h1]
  · have hm : min R.length 4 = R.length := by omega
    have hl : 0 < R.length := List.length_pos_iff.2 hR
    have hc := fnd_cases R 16
    have key : (∃ k : Nat, k < 16 ∧ R.take (min R.length 4) = (le4 (407710288 + (k : Int))).take (min R.length 4)) ↔ ((R.getD 0 0).toNat - (R.getD 0 0).toNat % 16 = 80 ∧ R.drop 1 = ((le4 407710288).take R.length).drop 1) := by
      rw [hm, List.take_length, le4_least]
      match R, hl with
      | a :: r, _ =>
        simp only [List.getD_cons_zero, List.length_cons, List.take_succ_cons, List.drop_succ_cons, List.drop_zero]
        constructor
        · rintro ⟨k, hk, e⟩
          rw [le4_k _ (by omega) (by omega), List.take_succ_cons] at e
          injection e with e1 e2
          have := b8_toNat (80 + (k : Int))
          rw [e1]
          exact ⟨by omega, e2⟩
        · rintro ⟨e1, e2⟩
          refine ⟨a.toNat - 80, by omega, ?_⟩
          rw [le4_k _ (by omega) (by omega), List.take_succ_cons, ← e2, b8_eq (b := a) (by have := UInt8.toNat_lt a; omega)]
    have hz : fnd R 0 = if R = (le4 4247762216).take R.length then 2 else 4 := by rw [fnd, hm, List.take_length]
    by_cases hk : ∃ k : Nat, k < 16 ∧ R.take (min R.length 4) = (le4 (407710288 + (k : Int))).take (min R.length 4)
    · obtain ⟨k, hk1, hk2⟩ := hk
      rw [fnd_1 hk1 hk2, if_pos ⟨by omega, by omega⟩, bg_3 (by omega) (by omega) (.inl (key.1 ⟨k, hk1, hk2⟩))]
    · rw [fnd_0 (fun k hk1 hk2 => hk ⟨k, hk1, hk2⟩), hz]
      by_cases hd : R = (le4 4247762216).take R.length
      · rw [if_pos hd, if_pos ⟨by omega, by omega⟩, bg_3 (by omega) (by omega) (.inr hd)]
      · rw [if_neg hd, if_neg (by omega), bg_n (by omega) (by omega) (by
          rintro (a | a)
          · exact hk (key.2 a)
          · exact hd a)]
/-! ### A number of four bytes, read from its end -/
def rv (R : List UInt8) : Nat → Int
  | 0 => 0
  | k + 1 => rv R k * 256 + ((R.getD (3 - k) 0).toNat : Nat)
theorem rv_rng (R : List UInt8) : ∀ k, 0 ≤ rv R k ∧ rv R k < 256 ^ k
  | 0 => by simp [rv]
  | k + 1 => by
    have := rv_rng R k
    have h := UInt8.toNat_lt (R.getD (3 - k) 0)
    rw [rv, Int.pow_succ]
    omega
theorem rv_4 (R : List UInt8) : rv R 4 = num4 R := by
  simp only [rv, num4, Nat.sub_zero, Nat.reduceSub]
  omega
theorem cut_eq {l : List UInt8} {x n : Nat} : ((l.drop x).take (8 + n)).drop 8 = (l.take (x + 8 + n)).drop (x + 8) := by
  rw [List.take_drop, List.drop_drop]
  congr 2 <;> omega
end Go.Proofs.Ythhbhekccacmlaa
