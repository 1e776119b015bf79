import Derived.Test.YtlmoenjggggpkaaT24
namespace Go.Proofs.Ytlmoenjggggpkaa
open Go.RowKit Go.Chz
set_option linter.unusedVariables false

theorem tmod_emod (a : Int) (m : Int) (hm : 0 < m) : (if a.tmod m < 0 then a.tmod m + m else a.tmod m) = a % m := by
  have h1 := Int.emod_nonneg a (show m ≠ 0 by omega)
  have h2 := Int.emod_lt_of_pos a hm
  rw [Int.tmod_eq_emod]
  by_cases h : 0 ≤ a ∨ m ∣ a
  · rw [if_pos h]; simp; omega
  · rw [if_neg h]
    have : a % m ≠ 0 := fun h0 => h (.inr (Int.dvd_of_emod_eq_zero h0))
    rw [if_pos (by omega)]; omega

theorem Mod_any (a m : Int) (w : World) (hm : 0 < m) (hm2 : m ≤ 1099511627776) (ha : (Lit.int .i64 a).wf = true) :
    Calls Try.prog 20 #[.int .i64 a, .int .i64 m] w fun e w' => e = .returned (.int .i64 (a % m)) ∧ w = w' := by
  have ha2 : -9223372036854775808 ≤ a ∧ a ≤ 9223372036854775807 := by
    simp only [Lit.wf, Bool.and_eq_true, decide_eq_true_eq] at ha; exact ha
  have hmd := tmod_emod a m hm
  have hb := Int.tmod_lt_of_pos a hm
  have hb2 := Int.lt_tmod_of_pos a hm
  obtain ⟨r, hr⟩ : ∃ r, r = a.tmod m := ⟨_, rfl⟩
  rw [← hr] at hmd hb hb2
  have hr' := hr.symm
  have h0 : decide (m < 1) = false := decide_eq_false (by omega)
  clear ha hr
  by_cases h : r < 0
  · rw [if_pos h] at hmd
    rw [← hmd]
    have h1 := decide_eq_true h
    go_enter Try.func20, Try.ntmps20
    go_wp2
    go_ret
    refine ⟨?_, rfl⟩
    go_simp
  · rw [if_neg h] at hmd
    rw [← hmd]
    have h1 := decide_eq_false h
    go_enter Try.func20, Try.ntmps20
    go_wp2
    go_ret
    exact ⟨rfl, rfl⟩

theorem pv_add (s : ByteArray) (L m : Nat) (hm : m ≤ L) : ∀ n, pv s L (m + n) = 2 ^ n * pv s L m + pv s (L - m) n
  | 0 => by simp [pv]
  | n + 1 => by
    rw [← Nat.add_assoc, pv, pv_add s L m hm n, pv, Nat.pow_succ]
    have e : (if m + n < L then bitAt s (L - 1 - (m + n)) else 0) = (if n < L - m then bitAt s (L - m - 1 - n) else 0) := by
      by_cases h : m + n < L
      · rw [if_pos h, if_pos (by omega), show L - 1 - (m + n) = L - m - 1 - n by omega]
      · rw [if_neg h, if_neg (by omega)]
    rw [e, Nat.mul_add, Nat.mul_comm (2 ^ n) 2, Nat.mul_assoc]; omega
theorem pv_over (s : ByteArray) (L : Nat) : ∀ d, pv s L (L + d) = 2 ^ d * pv s L L
  | 0 => by simp
  | d + 1 => by
    rw [← Nat.add_assoc, pv, pv_over s L d, if_neg (by omega), Nat.pow_succ, Nat.mul_comm (2 ^ d) 2, Nat.mul_assoc]; omega
end Go.Proofs.Ytlmoenjggggpkaa
