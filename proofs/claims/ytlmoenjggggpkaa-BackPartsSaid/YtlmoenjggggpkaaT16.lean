import Derived.Test.YtlmoenjggggpkaaT15
namespace Go.Proofs.Ytlmoenjggggpkaa
open Go.RowKit Go.Chz
set_option linter.unusedVariables false

def rightE (s : ByteArray) (left : Int) : Int := if 1048576 < (s.size : Int) ∨ sizeV s < 0 ∨ left < 0 ∨ sizeV s < left then 10 else 0

set_option maxHeartbeats 800000 in
theorem Right_0 (s : ByteArray) (left : Int) (w : World) (hs : s.size ≤ 1048577)  (h1 : decide (1048576 < (s.size : Int)) = true) :
    Calls Try.prog 28 #[.agg #[.string s, .int .i64 left]] w fun e w' => e = .returned (.int .i64 10) ∧ Below w.heap.size w w' := by
  have hs' : s.size ≤ maxLen := by unfold maxLen; omega
  go_enter Try.func28, Try.ntmps28
  go_wp2
  refine abs (R := fun W => Code.wp _ _ _ _ W) (fun W => Below w.heap.size w W ∧ Blk W w.heap.size 39 [.string s, .int .i64 left] ∧ Blk W (w.heap.size + 1) 65 [.string s])
    ⟨by go_grown, (Blk.new _ _ _).alloc _, Blk.new' (by simp) _ _⟩ ?_
  rintro w0 ⟨hw0, hA, hB⟩
  have a0 := hA.cell 0 rfl
  have a1 := hA.cell 1 rfl
  have al := hA.lt
  have b0 := hB.cell 0 rfl
  have bl := hB.lt
  refine wp_region_B
    [(0, true), (1, false), (2, true), (3, true), (4, false), (5, true), (6, true), (7, true), (8, true), (9, true), (10, true), (11, true), (12, true), (13, true), (14, true), (15, true), (16, false), (17, true), (18, true), (19, false), (20, true)]
    (by kernel_rfl) (by kernel_rfl) (fun c a d v w h => by cases d <;> exact h) (fun hS1 => ?_)
  repeat (first
    | (refine wpS_nil ?_)
    | (refine wpS_skip (o := ⟨_, _, _, _, _, _⟩) rfl ?_ ?_; (focus rfl); simp only [Act.put, List.setIfInBounds_toArray, List.set_cons_zero, List.set_cons_succ])
    | (refine wpS_lightB (o := ⟨_, _, _, _, _, _⟩) (v := ?_) rfl ?_ (fun w' hS' => ?_) ?_; rotate_left; (focus rfl); (focus (go_simp; try with_reducible rfl)); simp only [Act.put, List.setIfInBounds_toArray, List.set_cons_zero, List.set_cons_succ])
    | (refine wpS_heavyB hS1 (o := ⟨_, _, _, _, _, _⟩) rfl ?_ (fun K hK => ?_); (focus rfl)
       go_wp2_with (first
         | (go_at_call 39; refine (long_any s _ hs').mono ?_; rintro e w1 ⟨rfl, hb1⟩)
         | (go_at_call 40; refine (size_any s _ hs).mono ?_; rintro e w1 ⟨rfl, hb1⟩)
         | (go_at_call 36; refine (when_any _ _ _).mono ?_; rintro e w1 ⟨rfl, rfl⟩))
       refine ⟨?_, fun hS1 => ?_⟩
       · first | exact Below.refl _ _ | exact hb1 | exact (Below.refl _ _).alloc (Nat.le_refl _) _)
    | (refine wpS_hskip hS1 (o := ⟨_, _, _, _, _, _⟩) rfl ?_ ?_; (focus rfl); simp only [Act.put, List.setIfInBounds_toArray, List.set_cons_zero, List.set_cons_succ]))
  go_wp2
  go_ret
  exact ⟨rfl, hw0.trans (hS1.mono hw0.size)⟩

set_option maxHeartbeats 800000 in
theorem Right_1 (s : ByteArray) (left : Int) (w : World) (hs : s.size ≤ 1048577) (h1 : decide (1048576 < (s.size : Int)) = false) (h2 : decide (sizeV s < 0) = true) :
    Calls Try.prog 28 #[.agg #[.string s, .int .i64 left]] w fun e w' => e = .returned (.int .i64 10) ∧ Below w.heap.size w w' := by
  have hs' : s.size ≤ maxLen := by unfold maxLen; omega
  go_enter Try.func28, Try.ntmps28
  go_wp2
  refine abs (R := fun W => Code.wp _ _ _ _ W) (fun W => Below w.heap.size w W ∧ Blk W w.heap.size 39 [.string s, .int .i64 left] ∧ Blk W (w.heap.size + 1) 65 [.string s])
    ⟨by go_grown, (Blk.new _ _ _).alloc _, Blk.new' (by simp) _ _⟩ ?_
  rintro w0 ⟨hw0, hA, hB⟩
  have a0 := hA.cell 0 rfl
  have a1 := hA.cell 1 rfl
  have al := hA.lt
  have b0 := hB.cell 0 rfl
  have bl := hB.lt
  refine wp_region_B
    [(0, true), (1, false), (2, true), (3, true), (4, false), (5, true), (6, true), (7, true), (8, true), (9, true), (10, true), (11, true), (12, true), (13, true), (14, true), (15, true), (16, false), (17, true), (18, true), (19, false), (20, true)]
    (by kernel_rfl) (by kernel_rfl) (fun c a d v w h => by cases d <;> exact h) (fun hS1 => ?_)
  repeat (first
    | (refine wpS_nil ?_)
    | (refine wpS_skip (o := ⟨_, _, _, _, _, _⟩) rfl ?_ ?_; (focus rfl); simp only [Act.put, List.setIfInBounds_toArray, List.set_cons_zero, List.set_cons_succ])
    | (refine wpS_lightB (o := ⟨_, _, _, _, _, _⟩) (v := ?_) rfl ?_ (fun w' hS' => ?_) ?_; rotate_left; (focus rfl); (focus (go_simp; try with_reducible rfl)); simp only [Act.put, List.setIfInBounds_toArray, List.set_cons_zero, List.set_cons_succ])
    | (refine wpS_heavyB hS1 (o := ⟨_, _, _, _, _, _⟩) rfl ?_ (fun K hK => ?_); (focus rfl)
       go_wp2_with (first
         | (go_at_call 39; refine (long_any s _ hs').mono ?_; rintro e w1 ⟨rfl, hb1⟩)
         | (go_at_call 40; refine (size_any s _ hs).mono ?_; rintro e w1 ⟨rfl, hb1⟩)
         | (go_at_call 36; refine (when_any _ _ _).mono ?_; rintro e w1 ⟨rfl, rfl⟩))
       refine ⟨?_, fun hS1 => ?_⟩
       · first | exact Below.refl _ _ | exact hb1 | exact (Below.refl _ _).alloc (Nat.le_refl _) _)
    | (refine wpS_hskip hS1 (o := ⟨_, _, _, _, _, _⟩) rfl ?_ ?_; (focus rfl); simp only [Act.put, List.setIfInBounds_toArray, List.set_cons_zero, List.set_cons_succ]))
  go_wp2
  go_ret
  exact ⟨rfl, hw0.trans (hS1.mono hw0.size)⟩

set_option maxHeartbeats 800000 in
theorem Right_2 (s : ByteArray) (left : Int) (w : World) (hs : s.size ≤ 1048577) (h1 : decide (1048576 < (s.size : Int)) = false) (h2 : decide (sizeV s < 0) = false) (h3 : decide (left < 0) = true) :
    Calls Try.prog 28 #[.agg #[.string s, .int .i64 left]] w fun e w' => e = .returned (.int .i64 10) ∧ Below w.heap.size w w' := by
  have hs' : s.size ≤ maxLen := by unfold maxLen; omega
  go_enter Try.func28, Try.ntmps28
  go_wp2
  refine abs (R := fun W => Code.wp _ _ _ _ W) (fun W => Below w.heap.size w W ∧ Blk W w.heap.size 39 [.string s, .int .i64 left] ∧ Blk W (w.heap.size + 1) 65 [.string s])
    ⟨by go_grown, (Blk.new _ _ _).alloc _, Blk.new' (by simp) _ _⟩ ?_
  rintro w0 ⟨hw0, hA, hB⟩
  have a0 := hA.cell 0 rfl
  have a1 := hA.cell 1 rfl
  have al := hA.lt
  have b0 := hB.cell 0 rfl
  have bl := hB.lt
  refine wp_region_B
    [(0, true), (1, false), (2, true), (3, true), (4, false), (5, true), (6, true), (7, true), (8, true), (9, true), (10, true), (11, true), (12, true), (13, true), (14, true), (15, true), (16, false), (17, true), (18, true), (19, false), (20, true)]
    (by kernel_rfl) (by kernel_rfl) (fun c a d v w h => by cases d <;> exact h) (fun hS1 => ?_)
  repeat (first
    | (refine wpS_nil ?_)
    | (refine wpS_skip (o := ⟨_, _, _, _, _, _⟩) rfl ?_ ?_; (focus rfl); simp only [Act.put, List.setIfInBounds_toArray, List.set_cons_zero, List.set_cons_succ])
    | (refine wpS_lightB (o := ⟨_, _, _, _, _, _⟩) (v := ?_) rfl ?_ (fun w' hS' => ?_) ?_; rotate_left; (focus rfl); (focus (go_simp; try with_reducible rfl)); simp only [Act.put, List.setIfInBounds_toArray, List.set_cons_zero, List.set_cons_succ])
    | (refine wpS_heavyB hS1 (o := ⟨_, _, _, _, _, _⟩) rfl ?_ (fun K hK => ?_); (focus rfl)
       go_wp2_with (first
         | (go_at_call 39; refine (long_any s _ hs').mono ?_; rintro e w1 ⟨rfl, hb1⟩)
         | (go_at_call 40; refine (size_any s _ hs).mono ?_; rintro e w1 ⟨rfl, hb1⟩)
         | (go_at_call 36; refine (when_any _ _ _).mono ?_; rintro e w1 ⟨rfl, rfl⟩))
       refine ⟨?_, fun hS1 => ?_⟩
       · first | exact Below.refl _ _ | exact hb1 | exact (Below.refl _ _).alloc (Nat.le_refl _) _)
    | (refine wpS_hskip hS1 (o := ⟨_, _, _, _, _, _⟩) rfl ?_ ?_; (focus rfl); simp only [Act.put, List.setIfInBounds_toArray, List.set_cons_zero, List.set_cons_succ]))
  go_wp2
  go_ret
  exact ⟨rfl, hw0.trans (hS1.mono hw0.size)⟩

set_option maxHeartbeats 800000 in
theorem Right_3 (s : ByteArray) (left : Int) (w : World) (hs : s.size ≤ 1048577) (h1 : decide (1048576 < (s.size : Int)) = false) (h2 : decide (sizeV s < 0) = false) (h3 : decide (left < 0) = false) (h4 : decide (sizeV s < left) = true) :
    Calls Try.prog 28 #[.agg #[.string s, .int .i64 left]] w fun e w' => e = .returned (.int .i64 10) ∧ Below w.heap.size w w' := by
  have hs' : s.size ≤ maxLen := by unfold maxLen; omega
  go_enter Try.func28, Try.ntmps28
  go_wp2
  refine abs (R := fun W => Code.wp _ _ _ _ W) (fun W => Below w.heap.size w W ∧ Blk W w.heap.size 39 [.string s, .int .i64 left] ∧ Blk W (w.heap.size + 1) 65 [.string s])
    ⟨by go_grown, (Blk.new _ _ _).alloc _, Blk.new' (by simp) _ _⟩ ?_
  rintro w0 ⟨hw0, hA, hB⟩
  have a0 := hA.cell 0 rfl
  have a1 := hA.cell 1 rfl
  have al := hA.lt
  have b0 := hB.cell 0 rfl
  have bl := hB.lt
  refine wp_region_B
    [(0, true), (1, false), (2, true), (3, true), (4, false), (5, true), (6, true), (7, true), (8, true), (9, true), (10, true), (11, true), (12, true), (13, true), (14, true), (15, true), (16, false), (17, true), (18, true), (19, false), (20, true)]
    (by kernel_rfl) (by kernel_rfl) (fun c a d v w h => by cases d <;> exact h) (fun hS1 => ?_)
  repeat (first
    | (refine wpS_nil ?_)
    | (refine wpS_skip (o := ⟨_, _, _, _, _, _⟩) rfl ?_ ?_; (focus rfl); simp only [Act.put, List.setIfInBounds_toArray, List.set_cons_zero, List.set_cons_succ])
    | (refine wpS_lightB (o := ⟨_, _, _, _, _, _⟩) (v := ?_) rfl ?_ (fun w' hS' => ?_) ?_; rotate_left; (focus rfl); (focus (go_simp; try with_reducible rfl)); simp only [Act.put, List.setIfInBounds_toArray, List.set_cons_zero, List.set_cons_succ])
    | (refine wpS_heavyB hS1 (o := ⟨_, _, _, _, _, _⟩) rfl ?_ (fun K hK => ?_); (focus rfl)
       go_wp2_with (first
         | (go_at_call 39; refine (long_any s _ hs').mono ?_; rintro e w1 ⟨rfl, hb1⟩)
         | (go_at_call 40; refine (size_any s _ hs).mono ?_; rintro e w1 ⟨rfl, hb1⟩)
         | (go_at_call 36; refine (when_any _ _ _).mono ?_; rintro e w1 ⟨rfl, rfl⟩))
       refine ⟨?_, fun hS1 => ?_⟩
       · first | exact Below.refl _ _ | exact hb1 | exact (Below.refl _ _).alloc (Nat.le_refl _) _)
    | (refine wpS_hskip hS1 (o := ⟨_, _, _, _, _, _⟩) rfl ?_ ?_; (focus rfl); simp only [Act.put, List.setIfInBounds_toArray, List.set_cons_zero, List.set_cons_succ]))
  go_wp2
  go_ret
  exact ⟨rfl, hw0.trans (hS1.mono hw0.size)⟩

set_option maxHeartbeats 800000 in
theorem Right_4 (s : ByteArray) (left : Int) (w : World) (hs : s.size ≤ 1048577) (h1 : decide (1048576 < (s.size : Int)) = false) (h2 : decide (sizeV s < 0) = false) (h3 : decide (left < 0) = false) (h4 : decide (sizeV s < left) = false) :
    Calls Try.prog 28 #[.agg #[.string s, .int .i64 left]] w fun e w' => e = .returned (.int .i64 0) ∧ Below w.heap.size w w' := by
  have hs' : s.size ≤ maxLen := by unfold maxLen; omega
  go_enter Try.func28, Try.ntmps28
  go_wp2
  refine abs (R := fun W => Code.wp _ _ _ _ W) (fun W => Below w.heap.size w W ∧ Blk W w.heap.size 39 [.string s, .int .i64 left] ∧ Blk W (w.heap.size + 1) 65 [.string s])
    ⟨by go_grown, (Blk.new _ _ _).alloc _, Blk.new' (by simp) _ _⟩ ?_
  rintro w0 ⟨hw0, hA, hB⟩
  have a0 := hA.cell 0 rfl
  have a1 := hA.cell 1 rfl
  have al := hA.lt
  have b0 := hB.cell 0 rfl
  have bl := hB.lt
  refine wp_region_B
    [(0, true), (1, false), (2, true), (3, true), (4, false), (5, true), (6, true), (7, true), (8, true), (9, true), (10, true), (11, true), (12, true), (13, true), (14, true), (15, true), (16, false), (17, true), (18, true), (19, false), (20, true)]
    (by kernel_rfl) (by kernel_rfl) (fun c a d v w h => by cases d <;> exact h) (fun hS1 => ?_)
  repeat (first
    | (refine wpS_nil ?_)
    | (refine wpS_skip (o := ⟨_, _, _, _, _, _⟩) rfl ?_ ?_; (focus rfl); simp only [Act.put, List.setIfInBounds_toArray, List.set_cons_zero, List.set_cons_succ])
    | (refine wpS_lightB (o := ⟨_, _, _, _, _, _⟩) (v := ?_) rfl ?_ (fun w' hS' => ?_) ?_; rotate_left; (focus rfl); (focus (go_simp; try with_reducible rfl)); simp only [Act.put, List.setIfInBounds_toArray, List.set_cons_zero, List.set_cons_succ])
    | (refine wpS_heavyB hS1 (o := ⟨_, _, _, _, _, _⟩) rfl ?_ (fun K hK => ?_); (focus rfl)
       go_wp2_with (first
         | (go_at_call 39; refine (long_any s _ hs').mono ?_; rintro e w1 ⟨rfl, hb1⟩)
         | (go_at_call 40; refine (size_any s _ hs).mono ?_; rintro e w1 ⟨rfl, hb1⟩)
         | (go_at_call 36; refine (when_any _ _ _).mono ?_; rintro e w1 ⟨rfl, rfl⟩))
       refine ⟨?_, fun hS1 => ?_⟩
       · first | exact Below.refl _ _ | exact hb1 | exact (Below.refl _ _).alloc (Nat.le_refl _) _)
    | (refine wpS_hskip hS1 (o := ⟨_, _, _, _, _, _⟩) rfl ?_ ?_; (focus rfl); simp only [Act.put, List.setIfInBounds_toArray, List.set_cons_zero, List.set_cons_succ]))
  go_wp2
  go_ret
  exact ⟨rfl, hw0.trans (hS1.mono hw0.size)⟩

theorem Right_any (s : ByteArray) (left : Int) (w : World) (hs : s.size ≤ 1048577) :
    Calls Try.prog 28 #[.agg #[.string s, .int .i64 left]] w fun e w' => e = .returned (.int .i64 (rightE s left)) ∧ Below w.heap.size w w' := by
  by_cases h1 : 1048576 < (s.size : Int)
  · rw [rightE, if_pos (.inl h1)]; exact Right_0 s left w hs (decide_eq_true h1)
  · by_cases h2 : sizeV s < 0
    · rw [rightE, if_pos (.inr (.inl h2))]; exact Right_1 s left w hs (decide_eq_false h1) (decide_eq_true h2)
    · by_cases h3 : left < 0
      · rw [rightE, if_pos (.inr (.inr (.inl h3)))]; exact Right_2 s left w hs (decide_eq_false h1) (decide_eq_false h2) (decide_eq_true h3)
      · by_cases h4 : sizeV s < left
        · rw [rightE, if_pos (.inr (.inr (.inr h4)))]; exact Right_3 s left w hs (decide_eq_false h1) (decide_eq_false h2) (decide_eq_false h3) (decide_eq_true h4)
        · rw [rightE, if_neg (by omega)]; exact Right_4 s left w hs (decide_eq_false h1) (decide_eq_false h2) (decide_eq_false h3) (decide_eq_false h4)

set_option maxHeartbeats 800000 in
theorem rRight_bad (s : ByteArray) (left E n : Int) (w : World) (hc : ∀ w, Calls Try.prog 29 #[.string s] w fun e w' => e = .returned (.tuple #[.int .i64 n, .int .i64 E]) ∧ Below w.heap.size w w') (h : (E != 0) = true) :
    Calls Try.prog 31 #[.agg #[.string s, .int .i64 left]] w fun e w' => e = .returned (.int .i64 10) ∧ Below w.heap.size w w' := by
  go_enter Try.func31, Try.ntmps31
  go_wp2_with (first
    | (go_at_call 29; refine (hc _).mono ?_; rintro e w1 ⟨rfl, hb1⟩; have hA := (Blk.new w 39 [.string s, .int .i64 left]).belowS hb1; have a0 := hA.cell 0 rfl; have a1 := hA.cell 1 rfl; have al := hA.lt; have hw1 : Below w.heap.size w w1 := Below.trans (by go_grown) (hb1.mono (by simp))))
  go_ret
  exact ⟨rfl, hw1⟩
set_option maxHeartbeats 800000 in
theorem rRight_ok (s : ByteArray) (left n : Int) (w : World) (hc : ∀ w, Calls Try.prog 29 #[.string s] w fun e w' => e = .returned (.tuple #[.int .i64 n, .int .i64 0]) ∧ Below w.heap.size w w') :
    Calls Try.prog 31 #[.agg #[.string s, .int .i64 left]] w fun e w' => e = .returned (.int .i64 (if left < 0 ∨ n < left then 10 else 0)) ∧ Below w.heap.size w w' := by
  by_cases h1 : left < 0
  · rw [if_pos (.inl h1)]
    have h1' := decide_eq_true h1
    clear h1
    go_enter Try.func31, Try.ntmps31
    go_wp2_with (first
      | (go_at_call 29; refine (hc _).mono ?_; rintro e w1 ⟨rfl, hb1⟩; have hA := (Blk.new w 39 [.string s, .int .i64 left]).belowS hb1; have a0 := hA.cell 0 rfl; have a1 := hA.cell 1 rfl; have al := hA.lt; have hw1 : Below w.heap.size w w1 := Below.trans (by go_grown) (hb1.mono (by simp))))
    go_ret
    exact ⟨rfl, hw1⟩
  · by_cases h2 : n < left
    · rw [if_pos (.inr h2)]
      have h1' := decide_eq_false h1
      have h2' := decide_eq_true h2
      clear h1 h2
      go_enter Try.func31, Try.ntmps31
      go_wp2_with (first
        | (go_at_call 29; refine (hc _).mono ?_; rintro e w1 ⟨rfl, hb1⟩; have hA := (Blk.new w 39 [.string s, .int .i64 left]).belowS hb1; have a0 := hA.cell 0 rfl; have a1 := hA.cell 1 rfl; have al := hA.lt; have hw1 : Below w.heap.size w w1 := Below.trans (by go_grown) (hb1.mono (by simp))))
      go_ret
      exact ⟨rfl, hw1⟩
    · rw [if_neg (by omega)]
      have h1' := decide_eq_false h1
      have h2' := decide_eq_false h2
      clear h1 h2
      go_enter Try.func31, Try.ntmps31
      go_wp2_with (first
        | (go_at_call 29; refine (hc _).mono ?_; rintro e w1 ⟨rfl, hb1⟩; have hA := (Blk.new w 39 [.string s, .int .i64 left]).belowS hb1; have a0 := hA.cell 0 rfl; have a1 := hA.cell 1 rfl; have al := hA.lt; have hw1 : Below w.heap.size w w1 := Below.trans (by go_grown) (hb1.mono (by simp))))
      go_ret
      exact ⟨rfl, hw1⟩
theorem rRight_any (s : ByteArray) (left : Int) (w : World) (hs : s.size ≤ 1048577) :
    Calls Try.prog 31 #[.agg #[.string s, .int .i64 left]] w fun e w' => e = .returned (.int .i64 (rightE s left)) ∧ Below w.heap.size w w' := by
  have hc := fun w => rBits_any s w hs
  have hv := bitsE_val s
  by_cases h : bitsE s = 0
  · have e : bitsN s = sizeV s := if_pos h
    rw [h, e] at hc
    have h1 : ¬ 1048576 < s.size ∧ ¬ sizeV s < 0 := by
      rw [h] at hv; constructor
      · intro h1; rw [if_pos h1] at hv; cases hv
      · intro h2; rw [if_pos h2] at hv; split at hv <;> cases hv
    have e2 : rightE s left = if left < 0 ∨ sizeV s < left then 10 else 0 := by
      unfold rightE; by_cases h3 : left < 0 ∨ sizeV s < left
      · rw [if_pos h3, if_pos (.inr (.inr h3))]
      · rw [if_neg h3, if_neg (by omega)]
    rw [e2]
    exact rRight_ok s left _ w hc
  · have e2 : rightE s left = 10 := by
      unfold rightE; rw [if_pos]
      rw [hv] at h
      by_cases h1 : 1048576 < s.size
      · exact .inl (by omega)
      · rw [if_neg h1] at h
        by_cases h2 : sizeV s < 0
        · exact .inr (.inl h2)
        · rw [if_neg h2] at h; exact absurd rfl h
    rw [e2]
    exact rRight_bad s left _ _ w hc (by simpa using h)

end Go.Proofs.Ytlmoenjggggpkaa
