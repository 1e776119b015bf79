import Derived.Test.YtlmoenjggggpkaaT4
namespace Go.Proofs.Ytlmoenjggggpkaa
open Go.RowKit Go.Chz
set_option linter.unusedVariables false

def ifB (b : Bool) (k : Int) : Int := if b then k else 0
theorem when_any (b : Bool) (k : Int) (w : World) :
    Calls Try.prog 36 #[.bool b, .int .i64 k] w fun e w' => e = .returned (.int .i64 (ifB b k)) ∧ w = w' := by
  cases b <;> (go_enter Try.func36, Try.ntmps36; go_wp2; go_ret; exact ⟨rfl, rfl⟩)

def chk (len : Nat) (part n : Int) : Int := if n < 0 ∨ 7 < n ∨ part < 0 ∨ 2 ^ n.toNat ≤ part ∨ 1048576 < len then 10 else 0

theorem and7 (n : Int) (h0 : 0 ≤ n) (h1 : n ≤ 7) : bits BinOp.and IntKind.i64 n 7 = n := by
  obtain ⟨m, rfl⟩ := Int.eq_ofNat_of_zero_le h0
  have : m = 0 ∨ m = 1 ∨ m = 2 ∨ m = 3 ∨ m = 4 ∨ m = 5 ∨ m = 6 ∨ m = 7 := by omega
  rcases this with rfl | rfl | rfl | rfl | rfl | rfl | rfl | rfl <;> decide +kernel

theorem pow7 (n : Int) (h0 : 0 ≤ n) (h1 : n ≤ 7) : wrap64 (2 ^ min (IntKind.u64.wrap n).toNat 64) = 2 ^ n.toNat := by
  obtain ⟨m, rfl⟩ := Int.eq_ofNat_of_zero_le h0
  have : m = 0 ∨ m = 1 ∨ m = 2 ∨ m = 3 ∨ m = 4 ∨ m = 5 ∨ m = 6 ∨ m = 7 := by omega
  rcases this with rfl | rfl | rfl | rfl | rfl | rfl | rfl | rfl <;> decide +kernel

theorem pow7' (n : Int) (h0 : 0 ≤ n) (h1 : n ≤ 7) : wrap64 (2 ^ min (IntKind.u64.wrap (bits BinOp.and IntKind.i64 n 7)).toNat 64) = 2 ^ n.toNat := by
  rw [and7 n h0 h1, pow7 n h0 h1]

theorem check_any (s : ByteArray) (part n : Int) (w : World) (hs : s.size ≤ maxLen) :
    Calls Try.prog 12 #[.agg #[.string s, .int .i64 part, .int .i64 n]] w fun e w' => e = .returned (.int .i64 (chk s.size part n)) ∧ Below w.heap.size w w' := by
  unfold maxLen at hs
  go_enter Try.func12, Try.ntmps12
  go_wp2_with (go_at_call 36; refine (when_any _ _ _).mono ?_; rintro e w' ⟨rfl, rfl⟩)
  all_goals go_ret
  all_goals refine ⟨?_, by go_grown⟩
  all_goals go_light
  all_goals try have e7 := pow7' n (by omega) (by omega)
  all_goals (unfold chk; split <;> first | rfl | (simp only [ifB]; simp; done) | (simp [ifB]; omega) | (exfalso; omega) | (simp; omega) | skip)

theorem rcheck_any (s : ByteArray) (part n : Int) (w : World) (hs : s.size ≤ maxLen) :
    Calls Try.prog 13 #[.agg #[.string s, .int .i64 part, .int .i64 n]] w fun e w' => e = .returned (.int .i64 (chk s.size part n)) ∧ Below w.heap.size w w' := by
  unfold maxLen at hs
  go_enter Try.func13, Try.ntmps13
  go_wp2
  all_goals go_ret
  all_goals refine ⟨?_, by go_grown⟩
  all_goals go_light
  all_goals try have e7 := pow7' n (by omega) (by omega)
  all_goals (unfold chk; split <;> first | rfl | (exfalso; omega) | (simp; omega) | skip)
end Go.Proofs.Ytlmoenjggggpkaa
