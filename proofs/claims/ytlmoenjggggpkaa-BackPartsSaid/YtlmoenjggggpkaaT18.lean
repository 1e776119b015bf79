import Derived.Test.YtlmoenjggggpkaaT17
namespace Go.Proofs.Ytlmoenjggggpkaa
open Go.RowKit Go.Chz
set_option linter.unusedVariables false

def askB (n : Int) : Bool := decide (n < 0 ∨ 32 < n)
def askE (s : ByteArray) (left n : Int) : Int := firstNZ [rightE s left, ifB (askB n) 2]
def peekV (s : ByteArray) (left n : Int) : Int := if askE s left n = 0 then (pv s left.toNat n.toNat : Int) else 0
theorem askE_zero {s : ByteArray} {left n : Int} (h : askE s left n = 0) : rightE s left = 0 ∧ 0 ≤ n ∧ n ≤ 32 := by
  unfold askE at h
  by_cases h1 : rightE s left = 0
  · rw [h1] at h
    by_cases h2 : n < 0 ∨ 32 < n
    · rw [askB, decide_eq_true h2] at h; cases h
    · exact ⟨h1, by omega, by omega⟩
  · simp [firstNZ, h1] at h
theorem rightE_zero {s : ByteArray} {left : Int} (h : rightE s left = 0) : s.size ≤ 1048576 ∧ 0 ≤ left ∧ left ≤ sizeV s ∧ left ≤ 8 * s.size := by
  unfold rightE at h
  split at h
  · cases h
  · have := (sizeV_le s).2; omega

set_option maxHeartbeats 800000 in
theorem Peek_lo (s : ByteArray) (left n : Int) (w : World) (hs : s.size ≤ 1048577) (h : n < 0) :
    Calls Try.prog 22 #[.agg #[.string s, .int .i64 left], .int .i64 n] w fun e w' => e = .returned (.tuple #[.int .u64 0, .int .i64 (askE s left n)]) ∧ Below w.heap.size w w' := by
  have hc := fun w => Right_any s left w hs
  have HE : Hid (firstNZ [rightE s left, ifB true 2] = askE s left n) := by
    show _ = firstNZ [_, ifB (decide _) 2]
    rw [decide_eq_true (show n < 0 ∨ 32 < n from .inl h)]
  have hE0 : (firstNZ [rightE s left, ifB true 2] != 0) = true := by
    simp only [firstNZ, ifB, if_true]; split <;> simp; omega
  have h1 := decide_eq_true h
  go_enter Try.func22, Try.ntmps22
  go_wp2_with (first
    | (go_at_call 28; refine (hc _).mono ?_; rintro e w1 ⟨rfl, hb1⟩; have hA := (Blk.new w 39 [.string s, .int .i64 left]).belowS hb1; have a0 := hA.cell 0 rfl; have a1 := hA.cell 1 rfl; have al := hA.lt; have hw1 : Below w.heap.size w w1 := Below.trans (by go_grown) (hb1.mono (by simp)))
    | (go_at_call 36; refine (when_any _ _ _).mono ?_; rintro e w2 ⟨rfl, rfl⟩)
    | (go_at_call 35; refine (first2 _ _ _ _ _ (Blk.new' rfl _ _)).mono ?_; rintro e w2 ⟨rfl, rfl⟩))
  go_ret2
  exact ⟨congrArg (fun x => Ending.returned (Value.tuple #[Value.int .u64 0, Value.int .i64 x])) HE.out, by go_grown⟩

set_option maxHeartbeats 800000 in
theorem Peek_hi (s : ByteArray) (left n : Int) (w : World) (hs : s.size ≤ 1048577) (h : 32 < n) :
    Calls Try.prog 22 #[.agg #[.string s, .int .i64 left], .int .i64 n] w fun e w' => e = .returned (.tuple #[.int .u64 0, .int .i64 (askE s left n)]) ∧ Below w.heap.size w w' := by
  have hc := fun w => Right_any s left w hs
  have HE : Hid (firstNZ [rightE s left, ifB true 2] = askE s left n) := by
    show _ = firstNZ [_, ifB (decide _) 2]
    rw [decide_eq_true (show n < 0 ∨ 32 < n from .inr h)]
  have hE0 : (firstNZ [rightE s left, ifB true 2] != 0) = true := by
    simp only [firstNZ, ifB, if_true]; split <;> simp; omega
  have h0 : decide (n < 0) = false := decide_eq_false (by omega)
  have h1 := decide_eq_true h
  go_enter Try.func22, Try.ntmps22
  go_wp2_with (first
    | (go_at_call 28; refine (hc _).mono ?_; rintro e w1 ⟨rfl, hb1⟩; have hA := (Blk.new w 39 [.string s, .int .i64 left]).belowS hb1; have a0 := hA.cell 0 rfl; have a1 := hA.cell 1 rfl; have al := hA.lt; have hw1 : Below w.heap.size w w1 := Below.trans (by go_grown) (hb1.mono (by simp)))
    | (go_at_call 36; refine (when_any _ _ _).mono ?_; rintro e w2 ⟨rfl, rfl⟩)
    | (go_at_call 35; refine (first2 _ _ _ _ _ (Blk.new' rfl _ _)).mono ?_; rintro e w2 ⟨rfl, rfl⟩))
  go_ret2
  exact ⟨congrArg (fun x => Ending.returned (Value.tuple #[Value.int .u64 0, Value.int .i64 x])) HE.out, by go_grown⟩

set_option maxHeartbeats 800000 in
theorem Peek_mid (s : ByteArray) (left n : Int) (w : World) (hs : s.size ≤ 1048577) (hn0 : 0 ≤ n) (hn1 : n ≤ 32) (h : askE s left n ≠ 0) :
    Calls Try.prog 22 #[.agg #[.string s, .int .i64 left], .int .i64 n] w fun e w' => e = .returned (.tuple #[.int .u64 0, .int .i64 (askE s left n)]) ∧ Below w.heap.size w w' := by
  have hc := fun w => Right_any s left w hs
  have h1 : decide (n < 0) = false := decide_eq_false (by omega)
  have h2 : decide (32 < n) = false := decide_eq_false (by omega)
  have HE : Hid (firstNZ [rightE s left, ifB false 2] = askE s left n) := by
    show _ = firstNZ [_, ifB (decide _) 2]
    rw [decide_eq_false (show ¬ (n < 0 ∨ 32 < n) by omega)]
  have hE0 : (firstNZ [rightE s left, ifB false 2] != 0) = true := by
    rw [HE.out]; simpa using h
  go_enter Try.func22, Try.ntmps22
  go_wp2_with (first
    | (go_at_call 28; refine (hc _).mono ?_; rintro e w1 ⟨rfl, hb1⟩; have hA := (Blk.new w 39 [.string s, .int .i64 left]).belowS hb1; have a0 := hA.cell 0 rfl; have a1 := hA.cell 1 rfl; have al := hA.lt; have hw1 : Below w.heap.size w w1 := Below.trans (by go_grown) (hb1.mono (by simp)))
    | (go_at_call 36; refine (when_any _ _ _).mono ?_; rintro e w2 ⟨rfl, rfl⟩)
    | (go_at_call 35; refine (first2 _ _ _ _ _ (Blk.new' rfl _ _)).mono ?_; rintro e w2 ⟨rfl, rfl⟩))
  go_ret2
  exact ⟨congrArg (fun x => Ending.returned (Value.tuple #[Value.int .u64 0, Value.int .i64 x])) HE.out, by go_grown⟩

set_option maxHeartbeats 800000 in
theorem Peek_ok (s : ByteArray) (left n : Nat) (w : World) (hs : s.size ≤ 1048577) (h : askE s left n = 0) :
    Calls Try.prog 22 #[.agg #[.string s, .int .i64 left], .int .i64 n] w fun e w' => e = .returned (.tuple #[.int .u64 (pv s left n : Int), .int .i64 (askE s left n)]) ∧ Below w.heap.size w w' := by
  have hc := fun w => Right_any s left w hs
  obtain ⟨hr, hn0, hn1⟩ := askE_zero h
  obtain ⟨hs2, hl0, hl1, hl2⟩ := rightE_zero hr
  have h1 : decide ((n : Int) < 0) = false := decide_eq_false (by omega)
  have h2 : decide (32 < (n : Int)) = false := decide_eq_false (by omega)
  have HE : Hid (firstNZ [rightE s left, ifB false 2] = askE s left n) := by
    show _ = firstNZ [_, ifB (decide _) 2]
    rw [decide_eq_false (show ¬ ((n : Int) < 0 ∨ 32 < (n : Int)) by omega)]
  have hE0 : firstNZ [rightE s left, ifB false 2] = 0 := by
    rw [HE.out]; exact h
  go_enter Try.func22, Try.ntmps22
  go_wp2_with (first
    | (go_at_call 28; refine (hc _).mono ?_; rintro e w1 ⟨rfl, hb1⟩; have hA := (Blk.new w 39 [.string s, .int .i64 left]).belowS hb1; have a0 := hA.cell 0 rfl; have a1 := hA.cell 1 rfl; have al := hA.lt; have hw1 : Below w.heap.size w w1 := Below.trans (by go_grown) (hb1.mono (by simp)))
    | (go_at_call 36; refine (when_any _ _ _).mono ?_; rintro e w2 ⟨rfl, rfl⟩)
    | (go_at_call 35; refine (first2 _ _ _ _ _ (Blk.new' rfl _ _)).mono ?_; rintro e w2 ⟨rfl, rfl⟩))
  refine (number_any s left n (w1.heap.size + 1) _ hs (by omega) (by omega) ?_).mono ?_
  · exact Blk.new' (by simp) _ _
  rintro e w3 ⟨rfl, hb3⟩
  have hw3 : Below w.heap.size w w3 := Below.trans (by go_grown) (hb3.mono (by have := hw1.size; simp; omega))
  go_wp2
  go_ret2
  refine ⟨?_, hw3⟩
  rw [h]; rfl

theorem Peek_any (s : ByteArray) (left n : Int) (w : World) (hs : s.size ≤ 1048577) :
    Calls Try.prog 22 #[.agg #[.string s, .int .i64 left], .int .i64 n] w fun e w' => e = .returned (.tuple #[.int .u64 (peekV s left n), .int .i64 (askE s left n)]) ∧ Below w.heap.size w w' := by
  by_cases h : askE s left n = 0
  · rw [peekV, if_pos h]
    obtain ⟨hr, hn0, hn1⟩ := askE_zero h
    obtain ⟨hs2, hl0, hl1, hl2⟩ := rightE_zero hr
    obtain ⟨K, rfl⟩ := Int.eq_ofNat_of_zero_le hn0
    obtain ⟨L, rfl⟩ := Int.eq_ofNat_of_zero_le hl0
    exact Peek_ok s L K w hs h
  · rw [peekV, if_neg h]
    by_cases h1 : n < 0
    · exact Peek_lo s left n w hs h1
    · by_cases h2 : 32 < n
      · exact Peek_hi s left n w hs h2
      · exact Peek_mid s left n w hs (by omega) (by omega) h

end Go.Proofs.Ytlmoenjggggpkaa
