import Derived.Test.YtlmoenjggggpkaaT18
namespace Go.Proofs.Ytlmoenjggggpkaa
open Go.RowKit Go.Chz
set_option linter.unusedVariables false

theorem bit_u8 : ∀ b : Fin 256, ∀ j : Fin 8, bits BinOp.and IntKind.u8 ((b.val : Int) / 2 ^ j.val) 1 = ((b.val / 2 ^ j.val % 2 : Nat) : Int) := by decide +kernel
def takeE (s : ByteArray) (left n : Int) : Int := firstNZ [askE s left n, ifB (decide (left < n)) 5]
theorem firstNZ_l {a b : Int} (h : a ≠ 0) : firstNZ [a, b] = a := by simp [firstNZ, h]
theorem firstNZ_r {b : Int} : firstNZ [0, b] = b := by
  by_cases h : b = 0 <;> simp [firstNZ, h]
theorem takeE_zero {s : ByteArray} {left n : Int} (h : takeE s left n = 0) : askE s left n = 0 ∧ n ≤ left := by
  unfold takeE at h
  by_cases h1 : askE s left n = 0
  · rw [h1, firstNZ_r] at h
    by_cases h2 : left < n
    · rw [decide_eq_true h2] at h; cases h
    · exact ⟨h1, by omega⟩
  · rw [firstNZ_l h1] at h; exact absurd h h1
def tkS (s : ByteArray) (left n : Int) : ByteArray := if takeE s left n = 0 then s else ⟨#[]⟩
def tkL (s : ByteArray) (left n : Int) : Int := if takeE s left n = 0 then left - n else 0
def tkV (s : ByteArray) (left n : Int) : Int := if takeE s left n = 0 then peekV s left n else 0

set_option maxHeartbeats 800000 in
theorem Take_bad (s : ByteArray) (left n : Int) (w : World) (hs : s.size ≤ 1048577) (h : takeE s left n ≠ 0) :
    Calls Try.prog 21 #[.agg #[.string s, .int .i64 left], .int .i64 n] w fun e w' => e = .returned (.tuple #[.agg #[.string ⟨#[]⟩, .int .i64 0], .int .u64 0, .int .i64 (takeE s left n)]) ∧ Below w.heap.size w w' := by
  have hc := fun w => Peek_any s left n w hs
  have HE : Hid (firstNZ [askE s left n, ifB (decide (left < n)) 5] = takeE s left n) := rfl
  have hE0 : (firstNZ [askE s left n, ifB (decide (left < n)) 5] != 0) = true := by simpa [takeE] using h
  go_enter Try.func21, Try.ntmps21
  go_wp2_with (first
    | (go_at_call 22; refine (hc _).mono ?_; rintro e w1 ⟨rfl, hb1⟩; have hA := ((Blk.new w 39 [.string s, .int .i64 left]).alloc (.cells #[.string ⟨#[]⟩, .int .i64 0] 39)).belowS hb1; have hR := (Blk.new' (w := w.alloc (.cells #[.string s, .int .i64 left] 39)) (H := w.heap.size + 1) (by simp) 39 [.string ⟨#[]⟩, .int .i64 0]).belowS hb1; have a0 := hA.cell 0 rfl; have a1 := hA.cell 1 rfl; have al := hA.lt; have x0 := hA.frozen 0; have x1 := hA.frozen 1; have r0 := hR.cell 0 rfl; have r1 := hR.cell 1 rfl; have g0 := hR.frozen 0; have g1 := hR.frozen 1; have rl := hR.lt; have hw1 : Below w.heap.size w w1 := Below.trans (by go_grown) (hb1.mono (by simp; omega)))
    | (go_at_call 36; refine (when_any _ _ _).mono ?_; rintro e w2 ⟨rfl, rfl⟩)
    | (go_at_call 35; refine (first2 _ _ _ _ _ (Blk.new' rfl _ _)).mono ?_; rintro e w2 ⟨rfl, rfl⟩))
  refine bodyPost_ret (v := .tuple #[.agg #[.string ⟨#[]⟩, .int .i64 0], .int .u64 0, .int .i64 _]) (results_3 rfl (res_cell (t := 39) (cs := [.string ⟨#[]⟩, .int .i64 0]) rfl (((hR.set 0 _).set 1 _).alloc _) Try.underlying39 rfl (by kernel_rfl)) rfl rfl) rfl ⟨congrArg (fun x => Ending.returned (Value.tuple #[.agg #[.string ⟨#[]⟩, .int .i64 0], Value.int .u64 0, Value.int .i64 x])) HE.out, ?_⟩
  go_grown

set_option maxHeartbeats 800000 in
theorem Take_ok (s : ByteArray) (left n : Int) (w : World) (hs : s.size ≤ 1048577) (h : takeE s left n = 0) :
    Calls Try.prog 21 #[.agg #[.string s, .int .i64 left], .int .i64 n] w fun e w' => e = .returned (.tuple #[.agg #[.string s, .int .i64 (left - n)], .int .u64 (peekV s left n), .int .i64 0]) ∧ Below w.heap.size w w' := by
  have hc := fun w => Peek_any s left n w hs
  have HE : Hid (firstNZ [askE s left n, ifB (decide (left < n)) 5] = takeE s left n) := rfl
  obtain ⟨hk, hln⟩ := takeE_zero h
  have hE0 : firstNZ [0, ifB (decide (left < n)) 5] = 0 := by have h2 := h; rw [takeE, hk] at h2; exact h2
  obtain ⟨hr, hn0, hn1⟩ := askE_zero hk
  obtain ⟨hs2, hl0, hl1, hl2⟩ := rightE_zero hr
  go_enter Try.func21, Try.ntmps21
  go_wp2_with (first
    | (go_at_call 22; refine (hc _).mono ?_; rintro e w1 ⟨rfl, hb1⟩; have hA := ((Blk.new w 39 [.string s, .int .i64 left]).alloc (.cells #[.string ⟨#[]⟩, .int .i64 0] 39)).belowS hb1; have hR := (Blk.new' (w := w.alloc (.cells #[.string s, .int .i64 left] 39)) (H := w.heap.size + 1) (by simp) 39 [.string ⟨#[]⟩, .int .i64 0]).belowS hb1; have a0 := hA.cell 0 rfl; have a1 := hA.cell 1 rfl; have al := hA.lt; have x0 := hA.frozen 0; have x1 := hA.frozen 1; have r0 := hR.cell 0 rfl; have r1 := hR.cell 1 rfl; have g0 := hR.frozen 0; have g1 := hR.frozen 1; have rl := hR.lt; have hw1 : Below w.heap.size w w1 := Below.trans (by go_grown) (hb1.mono (by simp; omega)))
    | (go_at_call 36; refine (when_any _ _ _).mono ?_; rintro e w2 ⟨rfl, rfl⟩)
    | (go_at_call 35; refine (first2 _ _ _ _ _ (Blk.new' rfl _ _)).mono ?_; rintro e w2 ⟨rfl, rfl⟩))
  refine bodyPost_ret (v := .tuple #[.agg #[.string s, .int .i64 (left - n)], .int .u64 (peekV s left n), .int .i64 0]) (results_3 rfl (res_cell (t := 39) (cs := [.string s, .int .i64 (left - n)]) rfl ((((hR.far (p := ⟨w.heap.size, 1, none⟩) (by simp) (.int .i64 (left - n))).set 0 (.string s)).set 1 (.int .i64 (left - n))).alloc _) Try.underlying39 rfl (by kernel_rfl)) rfl rfl) rfl ⟨rfl, ?_⟩
  go_grown

theorem Take_any (s : ByteArray) (left n : Int) (w : World) (hs : s.size ≤ 1048577) :
    Calls Try.prog 21 #[.agg #[.string s, .int .i64 left], .int .i64 n] w fun e w' => e = .returned (.tuple #[.agg #[.string (tkS s left n), .int .i64 (tkL s left n)], .int .u64 (tkV s left n), .int .i64 (takeE s left n)]) ∧ Below w.heap.size w w' := by
  by_cases h : takeE s left n = 0
  · rw [tkS, tkL, tkV, if_pos h, if_pos h, if_pos h, h]; exact Take_ok s left n w hs h
  · rw [tkS, tkL, tkV, if_neg h, if_neg h, if_neg h]; exact Take_bad s left n w hs h

set_option maxHeartbeats 800000 in
theorem Skip_any (s : ByteArray) (left n : Int) (w : World) (hs : s.size ≤ 1048577) :
    Calls Try.prog 27 #[.agg #[.string s, .int .i64 left], .int .i64 n] w fun e w' => e = .returned (.tuple #[.agg #[.string (tkS s left n), .int .i64 (tkL s left n)], .int .i64 (takeE s left n)]) ∧ Below w.heap.size w w' := by
  have hc := fun w => Take_any s left n w hs
  obtain ⟨S, hS⟩ : ∃ x, x = tkS s left n := ⟨_, rfl⟩
  obtain ⟨L, hL⟩ : ∃ x, x = tkL s left n := ⟨_, rfl⟩
  obtain ⟨V, hV⟩ : ∃ x, x = tkV s left n := ⟨_, rfl⟩
  obtain ⟨E, hE⟩ : ∃ x, x = takeE s left n := ⟨_, rfl⟩
  rw [← hS, ← hL, ← hV, ← hE] at hc
  rw [← hS, ← hL, ← hE]
  clear hS hL hV hE
  go_enter Try.func27, Try.ntmps27
  go_wp2_with (first
    | (go_at_call 21; refine (hc _).mono ?_; rintro e w1 ⟨rfl, hb1⟩; have hA := ((Blk.new w 39 [.string s, .int .i64 left]).alloc (.cells #[.string ⟨#[]⟩, .int .i64 0] 39)).belowS hb1; have hR := (Blk.new' (w := w.alloc (.cells #[.string s, .int .i64 left] 39)) (H := w.heap.size + 1) (by simp) 39 [.string ⟨#[]⟩, .int .i64 0]).belowS hb1; have a0 := hA.cell 0 rfl; have a1 := hA.cell 1 rfl; have al := hA.lt; have x0 := hA.frozen 0; have x1 := hA.frozen 1; have r0 := hR.cell 0 rfl; have r1 := hR.cell 1 rfl; have g0 := hR.frozen 0; have g1 := hR.frozen 1; have rl := hR.lt; have hw1 : Below w.heap.size w w1 := Below.trans (by go_grown) (hb1.mono (by simp; omega))))
  refine bodyPost_ret (v := .tuple #[.agg #[.string S, .int .i64 L], .int .i64 E]) (results_2 rfl (res_cell (t := 39) (cs := [.string S, .int .i64 L]) rfl (((hR.set 0 _).set 1 _).alloc _) Try.underlying39 rfl (by kernel_rfl)) rfl) rfl ⟨rfl, ?_⟩
  go_grown

set_option maxHeartbeats 800000 in
theorem asked_bad (s : ByteArray) (left n : Int) (w : World) (hs : s.size ≤ 1048577) (h : (rightE s left == 0) = false) :
    Calls Try.prog 42 #[.agg #[.string s, .int .i64 left], .int .i64 n] w fun e w' => e = .returned (.int .i64 (rightE s left)) ∧ Below w.heap.size w w' := by
  have hc := fun w => rRight_any s left w hs
  go_enter Try.func42, Try.ntmps42
  go_wp2_with (first
    | (go_at_call 31; refine (hc _).mono ?_; rintro e w1 ⟨rfl, hb1⟩; have hw1 : Below w.heap.size w w1 := Below.trans (by go_grown) (hb1.mono (by simp))))
  go_ret
  exact ⟨rfl, hw1⟩

set_option maxHeartbeats 800000 in
theorem asked_lo (s : ByteArray) (left n : Int) (w : World) (hs : s.size ≤ 1048577) (h : rightE s left = 0) (h1 : decide (n < 0) = true) :
    Calls Try.prog 42 #[.agg #[.string s, .int .i64 left], .int .i64 n] w fun e w' => e = .returned (.int .i64 2) ∧ Below w.heap.size w w' := by
  have hc := fun w => rRight_any s left w hs
  rw [h] at hc
  go_enter Try.func42, Try.ntmps42
  go_wp2_with (first
    | (go_at_call 31; refine (hc _).mono ?_; rintro e w1 ⟨rfl, hb1⟩; have hw1 : Below w.heap.size w w1 := Below.trans (by go_grown) (hb1.mono (by simp))))
  go_ret
  exact ⟨rfl, hw1⟩

set_option maxHeartbeats 800000 in
theorem asked_hi (s : ByteArray) (left n : Int) (w : World) (hs : s.size ≤ 1048577) (h : rightE s left = 0) (h1 : decide (n < 0) = false) (h2 : decide (32 < n) = true) :
    Calls Try.prog 42 #[.agg #[.string s, .int .i64 left], .int .i64 n] w fun e w' => e = .returned (.int .i64 2) ∧ Below w.heap.size w w' := by
  have hc := fun w => rRight_any s left w hs
  rw [h] at hc
  go_enter Try.func42, Try.ntmps42
  go_wp2_with (first
    | (go_at_call 31; refine (hc _).mono ?_; rintro e w1 ⟨rfl, hb1⟩; have hw1 : Below w.heap.size w w1 := Below.trans (by go_grown) (hb1.mono (by simp))))
  go_ret
  exact ⟨rfl, hw1⟩

set_option maxHeartbeats 800000 in
theorem asked_in (s : ByteArray) (left n : Int) (w : World) (hs : s.size ≤ 1048577) (h : rightE s left = 0) (h1 : decide (n < 0) = false) (h2 : decide (32 < n) = false) :
    Calls Try.prog 42 #[.agg #[.string s, .int .i64 left], .int .i64 n] w fun e w' => e = .returned (.int .i64 0) ∧ Below w.heap.size w w' := by
  have hc := fun w => rRight_any s left w hs
  rw [h] at hc
  go_enter Try.func42, Try.ntmps42
  go_wp2_with (first
    | (go_at_call 31; refine (hc _).mono ?_; rintro e w1 ⟨rfl, hb1⟩; have hw1 : Below w.heap.size w w1 := Below.trans (by go_grown) (hb1.mono (by simp))))
  go_ret
  exact ⟨rfl, hw1⟩

theorem asked_any (s : ByteArray) (left n : Int) (w : World) (hs : s.size ≤ 1048577) :
    Calls Try.prog 42 #[.agg #[.string s, .int .i64 left], .int .i64 n] w fun e w' => e = .returned (.int .i64 (askE s left n)) ∧ Below w.heap.size w w' := by
  by_cases h : rightE s left = 0
  · by_cases h1 : n < 0
    · have e : askE s left n = 2 := by rw [askE, h, askB, decide_eq_true (.inl h1)]; rfl
      rw [e]; exact asked_lo s left n w hs h (decide_eq_true h1)
    · by_cases h2 : 32 < n
      · have e : askE s left n = 2 := by rw [askE, h, askB, decide_eq_true (.inr h2)]; rfl
        rw [e]; exact asked_hi s left n w hs h (decide_eq_false h1) (decide_eq_true h2)
      · have e : askE s left n = 0 := by rw [askE, h, askB, decide_eq_false (by omega)]; rfl
        rw [e]; exact asked_in s left n w hs h (decide_eq_false h1) (decide_eq_false h2)
  · have e : askE s left n = rightE s left := by rw [askE]; exact firstNZ_l h
    rw [e]; exact asked_bad s left n w hs (by simpa using h)

end Go.Proofs.Ytlmoenjggggpkaa
