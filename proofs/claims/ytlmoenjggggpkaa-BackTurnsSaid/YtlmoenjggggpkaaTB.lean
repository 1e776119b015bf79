/-
  A part of the proof of a statement of a chapter's seat; conditions: stated at each theorem.
-/
import Derived.Test.YtlmoenjggggpkaaTA
set_option linter.unusedVariables false
set_option linter.unusedSectionVars false
namespace Go.Proofs.Ytlmoenjggggpkaa
open Go.RowKit Go.Chz
set_option linter.unusedVariables false

def rightE (s : ByteArray) (left : Int) : Int := if 1048576 < (s.size : Int) ∨ sizeV s < 0 ∨ left < 0 ∨ sizeV s < left then 10 else 0

set_option maxHeartbeats 800000 in
theorem Right_0 (s : ByteArray) (left : Int) (w : World) (hs : s.size ≤ 1048577)  (h1 : decide (1048576 < (s.size : Int)) = true) :
    Calls Try.prog 28 #[.agg #[.string s, .int .i64 left]] w fun e w' => e = .returned (.int .i64 10) ∧ Below w.heap.size w w' := by
  have hs' : s.size ≤ maxLen := by unfold maxLen; omega
  go_enter Try.func28, Try.ntmps28
  go_wp2
  refine abs (R := fun W => Code.wp _ _ _ _ W) (fun W => Below w.heap.size w W ∧ Blk W w.heap.size 39 [.string s, .int .i64 left] ∧ Blk W (w.heap.size + 1) 65 [.string s])
    ⟨by go_grown, (Blk.new _ _ _).alloc _, Blk.new' (by simp) _ _⟩ ?_
  rintro w0 ⟨hw0, hA, hB⟩
  have a0 := hA.cell 0 rfl
  have a1 := hA.cell 1 rfl
  have al := hA.lt
  have b0 := hB.cell 0 rfl
  have bl := hB.lt
  refine wp_region_B
    [(0, true), (1, false), (2, true), (3, true), (4, false), (5, true), (6, true), (7, true), (8, true), (9, true), (10, true), (11, true), (12, true), (13, true), (14, true), (15, true), (16, false), (17, true), (18, true), (19, false), (20, true)]
    (by kernel_rfl) (by kernel_rfl) (fun c a d v w h => by cases d <;> exact h) (fun hS1 => ?_)
  repeat (first
    | (refine wpS_nil ?_)
    | (refine wpS_skip (o := ⟨_, _, _, _, _, _⟩) rfl ?_ ?_; (focus rfl); simp only [Act.put, List.setIfInBounds_toArray, List.set_cons_zero, List.set_cons_succ])
    | (refine wpS_lightB (o := ⟨_, _, _, _, _, _⟩) (v := ?_) rfl ?_ (fun w' hS' => ?_) ?_; rotate_left; (focus rfl); (focus (go_simp; try with_reducible rfl)); simp only [Act.put, List.setIfInBounds_toArray, List.set_cons_zero, List.set_cons_succ])
    | (refine wpS_heavyB hS1 (o := ⟨_, _, _, _, _, _⟩) rfl ?_ (fun K hK => ?_); (focus rfl)
       go_wp2_with (first
         | (go_at_call 39; refine (long_any s _ hs').mono ?_; rintro e w1 ⟨rfl, hb1⟩)
         | (go_at_call 40; refine (size_any s _ hs).mono ?_; rintro e w1 ⟨rfl, hb1⟩)
         | (go_at_call 36; refine (when_any _ _ _).mono ?_; rintro e w1 ⟨rfl, rfl⟩))
       refine ⟨?_, fun hS1 => ?_⟩
       · first | exact Below.refl _ _ | exact hb1 | exact (Below.refl _ _).alloc (Nat.le_refl _) _)
    | (refine wpS_hskip hS1 (o := ⟨_, _, _, _, _, _⟩) rfl ?_ ?_; (focus rfl); simp only [Act.put, List.setIfInBounds_toArray, List.set_cons_zero, List.set_cons_succ]))
  go_wp2
  go_ret
  exact ⟨rfl, hw0.trans (hS1.mono hw0.size)⟩

set_option maxHeartbeats 800000 in
theorem Right_1 (s : ByteArray) (left : Int) (w : World) (hs : s.size ≤ 1048577) (h1 : decide (1048576 < (s.size : Int)) = false) (h2 : decide (sizeV s < 0) = true) :
    Calls Try.prog 28 #[.agg #[.string s, .int .i64 left]] w fun e w' => e = .returned (.int .i64 10) ∧ Below w.heap.size w w' := by
  have hs' : s.size ≤ maxLen := by unfold maxLen; omega
  go_enter Try.func28, Try.ntmps28
  go_wp2
  refine abs (R := fun W => Code.wp _ _ _ _ W) (fun W => Below w.heap.size w W ∧ Blk W w.heap.size 39 [.string s, .int .i64 left] ∧ Blk W (w.heap.size + 1) 65 [.string s])
    ⟨by go_grown, (Blk.new _ _ _).alloc _, Blk.new' (by simp) _ _⟩ ?_
  rintro w0 ⟨hw0, hA, hB⟩
  have a0 := hA.cell 0 rfl
  have a1 := hA.cell 1 rfl
  have al := hA.lt
  have b0 := hB.cell 0 rfl
  have bl := hB.lt
  refine wp_region_B
    [(0, true), (1, false), (2, true), (3, true), (4, false), (5, true), (6, true), (7, true), (8, true), (9, true), (10, true), (11, true), (12, true), (13, true), (14, true), (15, true), (16, false), (17, true), (18, true), (19, false), (20, true)]
    (by kernel_rfl) (by kernel_rfl) (fun c a d v w h => by cases d <;> exact h) (fun hS1 => ?_)
  repeat (first
    | (refine wpS_nil ?_)
    | (refine wpS_skip (o := ⟨_, _, _, _, _, _⟩) rfl ?_ ?_; (focus rfl); simp only [Act.put, List.setIfInBounds_toArray, List.set_cons_zero, List.set_cons_succ])
    | (refine wpS_lightB (o := ⟨_, _, _, _, _, _⟩) (v := ?_) rfl ?_ (fun w' hS' => ?_) ?_; rotate_left; (focus rfl); (focus (go_simp; try with_reducible rfl)); simp only [Act.put, List.setIfInBounds_toArray, List.set_cons_zero, List.set_cons_succ])
    | (refine wpS_heavyB hS1 (o := ⟨_, _, _, _, _, _⟩) rfl ?_ (fun K hK => ?_); (focus rfl)
       go_wp2_with (first
         | (go_at_call 39; refine (long_any s _ hs').mono ?_; rintro e w1 ⟨rfl, hb1⟩)
         | (go_at_call 40; refine (size_any s _ hs).mono ?_; rintro e w1 ⟨rfl, hb1⟩)
         | (go_at_call 36; refine (when_any _ _ _).mono ?_; rintro e w1 ⟨rfl, rfl⟩))
       refine ⟨?_, fun hS1 => ?_⟩
       · first | exact Below.refl _ _ | exact hb1 | exact (Below.refl _ _).alloc (Nat.le_refl _) _)
    | (refine wpS_hskip hS1 (o := ⟨_, _, _, _, _, _⟩) rfl ?_ ?_; (focus rfl); simp only [Act.put, List.setIfInBounds_toArray, List.set_cons_zero, List.set_cons_succ]))
  go_wp2
  go_ret
  exact ⟨rfl, hw0.trans (hS1.mono hw0.size)⟩

set_option maxHeartbeats 800000 in
theorem Right_2 (s : ByteArray) (left : Int) (w : World) (hs : s.size ≤ 1048577) (h1 : decide (1048576 < (s.size : Int)) = false) (h2 : decide (sizeV s < 0) = false) (h3 : decide (left < 0) = true) :
    Calls Try.prog 28 #[.agg #[.string s, .int .i64 left]] w fun e w' => e = .returned (.int .i64 10) ∧ Below w.heap.size w w' := by
  have hs' : s.size ≤ maxLen := by unfold maxLen; omega
  go_enter Try.func28, Try.ntmps28
  go_wp2
  refine abs (R := fun W => Code.wp _ _ _ _ W) (fun W => Below w.heap.size w W ∧ Blk W w.heap.size 39 [.string s, .int .i64 left] ∧ Blk W (w.heap.size + 1) 65 [.string s])
    ⟨by go_grown, (Blk.new _ _ _).alloc _, Blk.new' (by simp) _ _⟩ ?_
  rintro w0 ⟨hw0, hA, hB⟩
  have a0 := hA.cell 0 rfl
  have a1 := hA.cell 1 rfl
  have al := hA.lt
  have b0 := hB.cell 0 rfl
  have bl := hB.lt
  refine wp_region_B
    [(0, true), (1, false), (2, true), (3, true), (4, false), (5, true), (6, true), (7, true), (8, true), (9, true), (10, true), (11, true), (12, true), (13, true), (14, true), (15, true), (16, false), (17, true), (18, true), (19, false), (20, true)]
    (by kernel_rfl) (by kernel_rfl) (fun c a d v w h => by cases d <;> exact h) (fun hS1 => ?_)
  repeat (first
    | (refine wpS_nil ?_)
    | (refine wpS_skip (o := ⟨_, _, _, _, _, _⟩) rfl ?_ ?_; (focus rfl); simp only [Act.put, List.setIfInBounds_toArray, List.set_cons_zero, List.set_cons_succ])
    | (refine wpS_lightB (o := ⟨_, _, _, _, _, _⟩) (v := ?_) rfl ?_ (fun w' hS' => ?_) ?_; rotate_left; (focus rfl); (focus (go_simp; try with_reducible rfl)); simp only [Act.put, List.setIfInBounds_toArray, List.set_cons_zero, List.set_cons_succ])
    | (refine wpS_heavyB hS1 (o := ⟨_, _, _, _, _, _⟩) rfl ?_ (fun K hK => ?_); (focus rfl)
       go_wp2_with (first
         | (go_at_call 39; refine (long_any s _ hs').mono ?_; rintro e w1 ⟨rfl, hb1⟩)
         | (go_at_call 40; refine (size_any s _ hs).mono ?_; rintro e w1 ⟨rfl, hb1⟩)
         | (go_at_call 36; refine (when_any _ _ _).mono ?_; rintro e w1 ⟨rfl, rfl⟩))
       refine ⟨?_, fun hS1 => ?_⟩
       · first | exact Below.refl _ _ | exact hb1 | exact (Below.refl _ _).alloc (Nat.le_refl _) _)
    | (refine wpS_hskip hS1 (o := ⟨_, _, _, _, _, _⟩) rfl ?_ ?_; (focus rfl); simp only [Act.put, List.setIfInBounds_toArray, List.set_cons_zero, List.set_cons_succ]))
  go_wp2
  go_ret
  exact ⟨rfl, hw0.trans (hS1.mono hw0.size)⟩

set_option maxHeartbeats 800000 in
theorem Right_3 (s : ByteArray) (left : Int) (w : World) (hs : s.size ≤ 1048577) (h1 : decide (1048576 < (s.size : Int)) = false) (h2 : decide (sizeV s < 0) = false) (h3 : decide (left < 0) = false) (h4 : decide (sizeV s < left) = true) :
    Calls Try.prog 28 #[.agg #[.string s, .int .i64 left]] w fun e w' => e = .returned (.int .i64 10) ∧ Below w.heap.size w w' := by
  have hs' : s.size ≤ maxLen := by unfold maxLen; omega
  go_enter Try.func28, Try.ntmps28
  go_wp2
  refine abs (R := fun W => Code.wp _ _ _ _ W) (fun W => Below w.heap.size w W ∧ Blk W w.heap.size 39 [.string s, .int .i64 left] ∧ Blk W (w.heap.size + 1) 65 [.string s])
    ⟨by go_grown, (Blk.new _ _ _).alloc _, Blk.new' (by simp) _ _⟩ ?_
  rintro w0 ⟨hw0, hA, hB⟩
  have a0 := hA.cell 0 rfl
  have a1 := hA.cell 1 rfl
  have al := hA.lt
  have b0 := hB.cell 0 rfl
  have bl := hB.lt
  refine wp_region_B
    [(0, true), (1, false), (2, true), (3, true), (4, false), (5, true), (6, true), (7, true), (8, true), (9, true), (10, true), (11, true), (12, true), (13, true), (14, true), (15, true), (16, false), (17, true), (18, true), (19, false), (20, true)]
    (by kernel_rfl) (by kernel_rfl) (fun c a d v w h => by cases d <;> exact h) (fun hS1 => ?_)
  repeat (first
    | (refine wpS_nil ?_)
    | (refine wpS_skip (o := ⟨_, _, _, _, _, _⟩) rfl ?_ ?_; (focus rfl); simp only [Act.put, List.setIfInBounds_toArray, List.set_cons_zero, List.set_cons_succ])
    | (refine wpS_lightB (o := ⟨_, _, _, _, _, _⟩) (v := ?_) rfl ?_ (fun w' hS' => ?_) ?_; rotate_left; (focus rfl); (focus (go_simp; try with_reducible rfl)); simp only [Act.put, List.setIfInBounds_toArray, List.set_cons_zero, List.set_cons_succ])
    | (refine wpS_heavyB hS1 (o := ⟨_, _, _, _, _, _⟩) rfl ?_ (fun K hK => ?_); (focus rfl)
       go_wp2_with (first
         | (go_at_call 39; refine (long_any s _ hs').mono ?_; rintro e w1 ⟨rfl, hb1⟩)
         | (go_at_call 40; refine (size_any s _ hs).mono ?_; rintro e w1 ⟨rfl, hb1⟩)
         | (go_at_call 36; refine (when_any _ _ _).mono ?_; rintro e w1 ⟨rfl, rfl⟩))
       refine ⟨?_, fun hS1 => ?_⟩
       · first | exact Below.refl _ _ | exact hb1 | exact (Below.refl _ _).alloc (Nat.le_refl _) _)
    | (refine wpS_hskip hS1 (o := ⟨_, _, _, _, _, _⟩) rfl ?_ ?_; (focus rfl); simp only [Act.put, List.setIfInBounds_toArray, List.set_cons_zero, List.set_cons_succ]))
  go_wp2
  go_ret
  exact ⟨rfl, hw0.trans (hS1.mono hw0.size)⟩

set_option maxHeartbeats 800000 in
theorem Right_4 (s : ByteArray) (left : Int) (w : World) (hs : s.size ≤ 1048577) (h1 : decide (1048576 < (s.size : Int)) = false) (h2 : decide (sizeV s < 0) = false) (h3 : decide (left < 0) = false) (h4 : decide (sizeV s < left) = false) :
    Calls Try.prog 28 #[.agg #[.string s, .int .i64 left]] w fun e w' => e = .returned (.int .i64 0) ∧ Below w.heap.size w w' := by
  have hs' : s.size ≤ maxLen := by unfold maxLen; omega
  go_enter Try.func28, Try.ntmps28
  go_wp2
  refine abs (R := fun W => Code.wp _ _ _ _ W) (fun W => Below w.heap.size w W ∧ Blk W w.heap.size 39 [.string s, .int .i64 left] ∧ Blk W (w.heap.size + 1) 65 [.string s])
    ⟨by go_grown, (Blk.new _ _ _).alloc _, Blk.new' (by simp) _ _⟩ ?_
  rintro w0 ⟨hw0, hA, hB⟩
  have a0 := hA.cell 0 rfl
  have a1 := hA.cell 1 rfl
  have al := hA.lt
  have b0 := hB.cell 0 rfl
  have bl := hB.lt
  refine wp_region_B
    [(0, true), (1, false), (2, true), (3, true), (4, false), (5, true), (6, true), (7, true), (8, true), (9, true), (10, true), (11, true), (12, true), (13, true), (14, true), (15, true), (16, false), (17, true), (18, true), (19, false), (20, true)]
    (by kernel_rfl) (by kernel_rfl) (fun c a d v w h => by cases d <;> exact h) (fun hS1 => ?_)
  repeat (first
    | (refine wpS_nil ?_)
    | (refine wpS_skip (o := ⟨_, _, _, _, _, _⟩) rfl ?_ ?_; (focus rfl); simp only [Act.put, List.setIfInBounds_toArray, List.set_cons_zero, List.set_cons_succ])
    | (refine wpS_lightB (o := ⟨_, _, _, _, _, _⟩) (v := ?_) rfl ?_ (fun w' hS' => ?_) ?_; rotate_left; (focus rfl); (focus (go_simp; try with_reducible rfl)); simp only [Act.put, List.setIfInBounds_toArray, List.set_cons_zero, List.set_cons_succ])
    | (refine wpS_heavyB hS1 (o := ⟨_, _, _, _, _, _⟩) rfl ?_ (fun K hK => ?_); (focus rfl)
       go_wp2_with (first
         | (go_at_call 39; refine (long_any s _ hs').mono ?_; rintro e w1 ⟨rfl, hb1⟩)
         | (go_at_call 40; refine (size_any s _ hs).mono ?_; rintro e w1 ⟨rfl, hb1⟩)
         | (go_at_call 36; refine (when_any _ _ _).mono ?_; rintro e w1 ⟨rfl, rfl⟩))
       refine ⟨?_, fun hS1 => ?_⟩
       · first | exact Below.refl _ _ | exact hb1 | exact (Below.refl _ _).alloc (Nat.le_refl _) _)
    | (refine wpS_hskip hS1 (o := ⟨_, _, _, _, _, _⟩) rfl ?_ ?_; (focus rfl); simp only [Act.put, List.setIfInBounds_toArray, List.set_cons_zero, List.set_cons_succ]))
  go_wp2
  go_ret
  exact ⟨rfl, hw0.trans (hS1.mono hw0.size)⟩

theorem Right_any (s : ByteArray) (left : Int) (w : World) (hs : s.size ≤ 1048577) :
    Calls Try.prog 28 #[.agg #[.string s, .int .i64 left]] w fun e w' => e = .returned (.int .i64 (rightE s left)) ∧ Below w.heap.size w w' := by
  by_cases h1 : 1048576 < (s.size : Int)
  · rw [rightE, if_pos (.inl h1)]; exact Right_0 s left w hs (decide_eq_true h1)
  · by_cases h2 : sizeV s < 0
    · rw [rightE, if_pos (.inr (.inl h2))]; exact Right_1 s left w hs (decide_eq_false h1) (decide_eq_true h2)
    · by_cases h3 : left < 0
      · rw [rightE, if_pos (.inr (.inr (.inl h3)))]; exact Right_2 s left w hs (decide_eq_false h1) (decide_eq_false h2) (decide_eq_true h3)
      · by_cases h4 : sizeV s < left
        · rw [rightE, if_pos (.inr (.inr (.inr h4)))]; exact Right_3 s left w hs (decide_eq_false h1) (decide_eq_false h2) (decide_eq_false h3) (decide_eq_true h4)
        · rw [rightE, if_neg (by omega)]; exact Right_4 s left w hs (decide_eq_false h1) (decide_eq_false h2) (decide_eq_false h3) (decide_eq_false h4)

set_option maxHeartbeats 800000 in
theorem rRight_bad (s : ByteArray) (left E n : Int) (w : World) (hc : ∀ w, Calls Try.prog 29 #[.string s] w fun e w' => e = .returned (.tuple #[.int .i64 n, .int .i64 E]) ∧ Below w.heap.size w w') (h : (E != 0) = true) :
    Calls Try.prog 31 #[.agg #[.string s, .int .i64 left]] w fun e w' => e = .returned (.int .i64 10) ∧ Below w.heap.size w w' := by
  go_enter Try.func31, Try.ntmps31
  go_wp2_with (first
    | (go_at_call 29; refine (hc _).mono ?_; rintro e w1 ⟨rfl, hb1⟩; have hA := (Blk.new w 39 [.string s, .int .i64 left]).belowS hb1; have a0 := hA.cell 0 rfl; have a1 := hA.cell 1 rfl; have al := hA.lt; have hw1 : Below w.heap.size w w1 := Below.trans (by go_grown) (hb1.mono (by simp))))
  go_ret
  exact ⟨rfl, hw1⟩
set_option maxHeartbeats 800000 in
theorem rRight_ok (s : ByteArray) (left n : Int) (w : World) (hc : ∀ w, Calls Try.prog 29 #[.string s] w fun e w' => e = .returned (.tuple #[.int .i64 n, .int .i64 0]) ∧ Below w.heap.size w w') :
    Calls Try.prog 31 #[.agg #[.string s, .int .i64 left]] w fun e w' => e = .returned (.int .i64 (if left < 0 ∨ n < left then 10 else 0)) ∧ Below w.heap.size w w' := by
  by_cases h1 : left < 0
  · rw [if_pos (.inl h1)]
    have h1' := decide_eq_true h1
    clear h1
    go_enter Try.func31, Try.ntmps31
    go_wp2_with (first
      | (go_at_call 29; refine (hc _).mono ?_; rintro e w1 ⟨rfl, hb1⟩; have hA := (Blk.new w 39 [.string s, .int .i64 left]).belowS hb1; have a0 := hA.cell 0 rfl; have a1 := hA.cell 1 rfl; have al := hA.lt; have hw1 : Below w.heap.size w w1 := Below.trans (by go_grown) (hb1.mono (by simp))))
    go_ret
    exact ⟨rfl, hw1⟩
  · by_cases h2 : n < left
    · rw [if_pos (.inr h2)]
      have h1' := decide_eq_false h1
      have h2' := decide_eq_true h2
      clear h1 h2
      go_enter Try.func31, Try.ntmps31
      go_wp2_with (first
        | (go_at_call 29; refine (hc _).mono ?_; rintro e w1 ⟨rfl, hb1⟩; have hA := (Blk.new w 39 [.string s, .int .i64 left]).belowS hb1; have a0 := hA.cell 0 rfl; have a1 := hA.cell 1 rfl; have al := hA.lt; have hw1 : Below w.heap.size w w1 := Below.trans (by go_grown) (hb1.mono (by simp))))
      go_ret
      exact ⟨rfl, hw1⟩
    · rw [if_neg (by omega)]
      have h1' := decide_eq_false h1
      have h2' := decide_eq_false h2
      clear h1 h2
      go_enter Try.func31, Try.ntmps31
      go_wp2_with (first
        | (go_at_call 29; refine (hc _).mono ?_; rintro e w1 ⟨rfl, hb1⟩; have hA := (Blk.new w 39 [.string s, .int .i64 left]).belowS hb1; have a0 := hA.cell 0 rfl; have a1 := hA.cell 1 rfl; have al := hA.lt; have hw1 : Below w.heap.size w w1 := Below.trans (by go_grown) (hb1.mono (by simp))))
      go_ret
      exact ⟨rfl, hw1⟩
theorem rRight_any (s : ByteArray) (left : Int) (w : World) (hs : s.size ≤ 1048577) :
    Calls Try.prog 31 #[.agg #[.string s, .int .i64 left]] w fun e w' => e = .returned (.int .i64 (rightE s left)) ∧ Below w.heap.size w w' := by
  have hc := fun w => rBits_any s w hs
  have hv := bitsE_val s
  by_cases h : bitsE s = 0
  · have e : bitsN s = sizeV s := if_pos h
    rw [h, e] at hc
    have h1 : ¬ 1048576 < s.size ∧ ¬ sizeV s < 0 := by
      rw [h] at hv; constructor
      · intro h1; rw [if_pos h1] at hv; cases hv
      · intro h2; rw [if_pos h2] at hv; split at hv <;> cases hv
    have e2 : rightE s left = if left < 0 ∨ sizeV s < left then 10 else 0 := by
      unfold rightE; by_cases h3 : left < 0 ∨ sizeV s < left
      · rw [if_pos h3, if_pos (.inr (.inr h3))]
      · rw [if_neg h3, if_neg (by omega)]
    rw [e2]
    exact rRight_ok s left _ w hc
  · have e2 : rightE s left = 10 := by
      unfold rightE; rw [if_pos]
      rw [hv] at h
      by_cases h1 : 1048576 < s.size
      · exact .inl (by omega)
      · rw [if_neg h1] at h
        by_cases h2 : sizeV s < 0
        · exact .inr (.inl h2)
        · rw [if_neg h2] at h; exact absurd rfl h
    rw [e2]
    exact rRight_bad s left _ _ w hc (by simpa using h)

end Go.Proofs.Ytlmoenjggggpkaa
namespace Go.Proofs.Ytlmoenjggggpkaa
open Go.RowKit Go.Chz
set_option linter.unusedVariables false

def readS (s : ByteArray) : ByteArray := if bitsE s = 0 then s else ⟨#[]⟩
set_option maxHeartbeats 800000 in
theorem Read_bad (E n : Int) (s : ByteArray) (w : World) (hc : ∀ w, Calls Try.prog 18 #[.string s] w fun e w' => e = .returned (.tuple #[.int .i64 n, .int .i64 E]) ∧ Below w.heap.size w w') (h : (E != 0) = true) :
    Calls Try.prog 19 #[.string s] w fun e w' => e = .returned (.tuple #[.agg #[.string ⟨#[]⟩, .int .i64 0], .int .i64 E]) ∧ Below w.heap.size w w' := by
  go_enter Try.func19, Try.ntmps19
  go_wp2_with (first
    | (go_at_call 18; refine (hc _).mono ?_; rintro e w1 ⟨rfl, hb1⟩; have hA := (Blk.new w 39 [.string ⟨#[]⟩, .int .i64 0]).belowS hb1; have a0 := hA.cell 0 rfl; have a1 := hA.cell 1 rfl; have f0 := hA.frozen 0; have f1 := hA.frozen 1; have al := hA.lt; have hw1 : Below w.heap.size w w1 := Below.trans (by go_grown) (hb1.mono (by simp))))
  refine bodyPost_ret (v := .tuple #[.agg #[.string ⟨#[]⟩, .int .i64 0], .int .i64 E]) (results_2 rfl (res_cell (t := 39) (cs := [.string ⟨#[]⟩, .int .i64 0]) rfl ((hA.set 0 _).set 1 _) Try.underlying39 rfl (by kernel_rfl)) rfl) rfl ⟨rfl, ?_⟩
  go_grown
set_option maxHeartbeats 800000 in
theorem Read_ok (n : Int) (s : ByteArray) (w : World) (hc : ∀ w, Calls Try.prog 18 #[.string s] w fun e w' => e = .returned (.tuple #[.int .i64 n, .int .i64 0]) ∧ Below w.heap.size w w') :
    Calls Try.prog 19 #[.string s] w fun e w' => e = .returned (.tuple #[.agg #[.string s, .int .i64 n], .int .i64 0]) ∧ Below w.heap.size w w' := by
  go_enter Try.func19, Try.ntmps19
  go_wp2_with (first
    | (go_at_call 18; refine (hc _).mono ?_; rintro e w1 ⟨rfl, hb1⟩; have hA := (Blk.new w 39 [.string ⟨#[]⟩, .int .i64 0]).belowS hb1; have a0 := hA.cell 0 rfl; have a1 := hA.cell 1 rfl; have f0 := hA.frozen 0; have f1 := hA.frozen 1; have al := hA.lt; have hw1 : Below w.heap.size w w1 := Below.trans (by go_grown) (hb1.mono (by simp))))
  refine bodyPost_ret (v := .tuple #[.agg #[.string s, .int .i64 n], .int .i64 0]) (results_2 rfl (res_cell (t := 39) (cs := [.string s, .int .i64 n]) rfl ((hA.set 0 _).set 1 _) Try.underlying39 rfl (by kernel_rfl)) rfl) rfl ⟨rfl, ?_⟩
  go_grown
set_option maxHeartbeats 800000 in
theorem rRead_bad (E n : Int) (s : ByteArray) (w : World) (hc : ∀ w, Calls Try.prog 29 #[.string s] w fun e w' => e = .returned (.tuple #[.int .i64 n, .int .i64 E]) ∧ Below w.heap.size w w') (h : (E != 0) = true) :
    Calls Try.prog 30 #[.string s] w fun e w' => e = .returned (.tuple #[.agg #[.string ⟨#[]⟩, .int .i64 0], .int .i64 E]) ∧ Below w.heap.size w w' := by
  go_enter Try.func30, Try.ntmps30
  go_wp2_with (first
    | (go_at_call 29; refine (hc _).mono ?_; rintro e w1 ⟨rfl, hb1⟩; have hA := (Blk.new w 39 [.string ⟨#[]⟩, .int .i64 0]).belowS hb1; have a0 := hA.cell 0 rfl; have a1 := hA.cell 1 rfl; have f0 := hA.frozen 0; have f1 := hA.frozen 1; have al := hA.lt; have hw1 : Below w.heap.size w w1 := Below.trans (by go_grown) (hb1.mono (by simp))))
  refine bodyPost_ret (v := .tuple #[.agg #[.string ⟨#[]⟩, .int .i64 0], .int .i64 E]) (results_2 rfl (res_cell (t := 39) (cs := [.string ⟨#[]⟩, .int .i64 0]) rfl ((hA.set 0 _).set 1 _) Try.underlying39 rfl (by kernel_rfl)) rfl) rfl ⟨rfl, ?_⟩
  go_grown
set_option maxHeartbeats 800000 in
theorem rRead_ok (n : Int) (s : ByteArray) (w : World) (hc : ∀ w, Calls Try.prog 29 #[.string s] w fun e w' => e = .returned (.tuple #[.int .i64 n, .int .i64 0]) ∧ Below w.heap.size w w') :
    Calls Try.prog 30 #[.string s] w fun e w' => e = .returned (.tuple #[.agg #[.string s, .int .i64 n], .int .i64 0]) ∧ Below w.heap.size w w' := by
  go_enter Try.func30, Try.ntmps30
  go_wp2_with (first
    | (go_at_call 29; refine (hc _).mono ?_; rintro e w1 ⟨rfl, hb1⟩; have hA := (Blk.new w 39 [.string ⟨#[]⟩, .int .i64 0]).belowS hb1; have a0 := hA.cell 0 rfl; have a1 := hA.cell 1 rfl; have f0 := hA.frozen 0; have f1 := hA.frozen 1; have al := hA.lt; have hw1 : Below w.heap.size w w1 := Below.trans (by go_grown) (hb1.mono (by simp))))
  refine bodyPost_ret (v := .tuple #[.agg #[.string s, .int .i64 n], .int .i64 0]) (results_2 rfl (res_cell (t := 39) (cs := [.string s, .int .i64 n]) rfl ((hA.set 0 _).set 1 _) Try.underlying39 rfl (by kernel_rfl)) rfl) rfl ⟨rfl, ?_⟩
  go_grown

theorem Read_any (s : ByteArray) (w : World) (hs : s.size ≤ 1048577) :
    Calls Try.prog 19 #[.string s] w fun e w' => e = .returned (.tuple #[.agg #[.string (readS s), .int .i64 (bitsN s)], .int .i64 (bitsE s)]) ∧ Below w.heap.size w w' := by
  have hc := fun w => Bits_any s w hs
  by_cases h : bitsE s = 0
  · rw [h] at hc ⊢; rw [readS, if_pos h]; exact Read_ok _ s w hc
  · rw [readS, if_neg h]; have e : bitsN s = 0 := if_neg h
    rw [e] at hc ⊢
    exact Read_bad _ _ s w hc (by simpa using h)
theorem rRead_any (s : ByteArray) (w : World) (hs : s.size ≤ 1048577) :
    Calls Try.prog 30 #[.string s] w fun e w' => e = .returned (.tuple #[.agg #[.string (readS s), .int .i64 (bitsN s)], .int .i64 (bitsE s)]) ∧ Below w.heap.size w w' := by
  have hc := fun w => rBits_any s w hs
  by_cases h : bitsE s = 0
  · rw [h] at hc ⊢; rw [readS, if_pos h]; exact rRead_ok _ s w hc
  · rw [readS, if_neg h]; have e : bitsN s = 0 := if_neg h
    rw [e] at hc ⊢
    exact rRead_bad _ _ s w hc (by simpa using h)

def bitAt (s : ByteArray) (i : Nat) : Nat := if h : i / 8 < s.size then s[i / 8].toNat / 2 ^ (i % 8) % 2 else 0
def pv (s : ByteArray) (L : Nat) : Nat → Nat
  | 0 => 0
  | i + 1 => 2 * pv s L i + (if i < L then bitAt s (L - 1 - i) else 0)
theorem bitAt_lt (s : ByteArray) (i : Nat) : bitAt s i ≤ 1 := by unfold bitAt; split <;> omega
theorem pv_lt (s : ByteArray) (L : Nat) : ∀ i, pv s L i < 2 ^ i
  | 0 => by simp [pv]
  | i + 1 => by
    have h1 := pv_lt s L i
    have h2 := bitAt_lt s (L - 1 - i)
    rw [pv, Nat.pow_succ]; split <;> omega

theorem bit_any (s : ByteArray) (i : Nat) (w : World) (hs : s.size ≤ 1048577) (hi : i / 8 < s.size) :
    Calls Try.prog 44 #[.agg #[.string s], .int .i64 i] w fun e w' => e = .returned (.int .u64 (bitAt s i)) ∧ Below w.heap.size w w' := by
  rw [bitAt, dif_pos hi]
  obtain ⟨b, hb⟩ : ∃ b, s[i / 8] = b := ⟨_, rfl⟩
  rw [hb]
  have hq : (i : Int).tdiv 8 = ((i / 8 : Nat) : Int) := by rw [Int.tdiv_eq_ediv_of_nonneg (by omega)]; omega
  have hr : (i : Int).tmod 8 = ((i % 8 : Nat) : Int) := by rw [Int.tmod_eq_emod_of_nonneg (by omega)]; omega
  have hbr := bit_rule b.toNat (i % 8) (by have := b.toNat_lt; omega)
  go_enter Try.func44, Try.ntmps44
  go_wp2
  go_ret
  refine ⟨?_, by go_grown⟩
  go_simp
  rw [IntWalk.u64_in (b.toNat : Int) ⟨by omega, by have := b.toNat_lt; omega⟩, hbr]; simp

set_option maxHeartbeats 800000 in
theorem number_any (s : ByteArray) (L K g : Nat) (w : World) (hs : s.size ≤ 1048577) (hL : L ≤ 8 * s.size) (hK : K ≤ 32) (hg : Blk w g 71 [.string s, .int .i64 L]) :
    Calls Try.prog 41 #[.pointer (some ⟨g, 0, none⟩), .int .i64 K] w fun e w' => e = .returned (.int .u64 (pv s L K)) ∧ Below w.heap.size w w' := by
  have g0 := hg.cell 0 rfl
  have g1 := hg.cell 1 rfl
  have gl := hg.lt
  go_enter Try.func41, Try.ntmps41
  go_wp2
  go_loopg [5, 9] K (fun q out i wr => ∃ j : Nat, q + j = K ∧ i = .int .i64 j ∧ out = .int .u64 (pv s L j) ∧ Hid (Below w.heap.size w wr))
  case atStart =>
    exact ⟨0, rfl, rfl, rfl, Below.refl _ _⟩
  case round =>
    obtain ⟨j, hq, rfl, rfl, HB⟩ := hrel
    have hG := hg.belowS HB.out
    have c0 := hG.cell 0 rfl
    have c1 := hG.cell 1 rfl
    have cl := hG.lt
    by_cases hj : j < K
    · have hlt := pv_lt s L j
      have hp := pow_le_of (show j ≤ 31 by omega)
      obtain ⟨P, hP⟩ : ∃ P, P = pv s L j := ⟨_, rfl⟩
      rw [← hP] at hlt ⊢
      have hPb : P < 2147483648 := by omega
      have HP := Lib.hid hP
      clear hP hlt hp g0 g1 gl hg
      by_cases hjL : j < L
      · have hat : ((L - 1 - j : Nat) : Int) = (L : Int) - 1 - j := by omega
        have hi : (L - 1 - j) / 8 < s.size := by omega
        obtain ⟨at', hA⟩ : ∃ a, a = L - 1 - j := ⟨_, rfl⟩
        rw [← hA] at hat hi
        have HA := Lib.hid hA
        have hat' := hat.symm
        clear hA hat
        go_wp2_with (first
          | (go_at_call 44; refine (bit_any s at' _ hs hi).mono ?_; rintro e w1 ⟨rfl, hb1⟩))
        go_roundg (gk - 1)
        case measure => omega
        case rel =>
          refine ⟨j + 1, by omega, rfl, ?_, ?_⟩
          · have h1 := bitAt_lt s at'
            rw [show (P : Int) * 2 = ((P * 2 : Nat) : Int) by simp, u64_or_nat _ _ (by omega) (by omega), nat_join 1 _ _ (by omega) (by omega), pv, if_pos hjL, ← HP.out, ← HA.out]
            congr 2; omega
          · exact HB.out.trans (hb1.mono HB.out.size)
      · go_wp2
        go_roundg (gk - 1)
        case measure => omega
        case rel =>
          refine ⟨j + 1, by omega, rfl, ?_, HB⟩
          rw [pv, if_neg hjL, ← HP.out]
          congr 1; omega
    · go_wp2
      have e : j = K := by omega
      subst e
      go_ret
      exact ⟨rfl, HB.out⟩
end Go.Proofs.Ytlmoenjggggpkaa
namespace Go.Proofs.Ytlmoenjggggpkaa
open Go.RowKit Go.Chz
set_option linter.unusedVariables false

def askB (n : Int) : Bool := decide (n < 0 ∨ 32 < n)
def askE (s : ByteArray) (left n : Int) : Int := firstNZ [rightE s left, ifB (askB n) 2]
def peekV (s : ByteArray) (left n : Int) : Int := if askE s left n = 0 then (pv s left.toNat n.toNat : Int) else 0
theorem askE_zero {s : ByteArray} {left n : Int} (h : askE s left n = 0) : rightE s left = 0 ∧ 0 ≤ n ∧ n ≤ 32 := by
  unfold askE at h
  by_cases h1 : rightE s left = 0
  · rw [h1] at h
    by_cases h2 : n < 0 ∨ 32 < n
    · rw [askB, decide_eq_true h2] at h; cases h
    · exact ⟨h1, by omega, by omega⟩
  · simp [firstNZ, h1] at h
theorem rightE_zero {s : ByteArray} {left : Int} (h : rightE s left = 0) : s.size ≤ 1048576 ∧ 0 ≤ left ∧ left ≤ sizeV s ∧ left ≤ 8 * s.size := by
  unfold rightE at h
  split at h
  · cases h
  · have := (sizeV_le s).2; omega

set_option maxHeartbeats 800000 in
theorem Peek_lo (s : ByteArray) (left n : Int) (w : World) (hs : s.size ≤ 1048577) (h : n < 0) :
    Calls Try.prog 22 #[.agg #[.string s, .int .i64 left], .int .i64 n] w fun e w' => e = .returned (.tuple #[.int .u64 0, .int .i64 (askE s left n)]) ∧ Below w.heap.size w w' := by
  have hc := fun w => Right_any s left w hs
  have HE : Hid (firstNZ [rightE s left, ifB true 2] = askE s left n) := by
    show _ = firstNZ [_, ifB (decide _) 2]
    rw [decide_eq_true (show n < 0 ∨ 32 < n from .inl h)]
  have hE0 : (firstNZ [rightE s left, ifB true 2] != 0) = true := by
    simp only [firstNZ, ifB, if_true]; split <;> simp; omega
  have h1 := decide_eq_true h
  go_enter Try.func22, Try.ntmps22
  go_wp2_with (first
    | (go_at_call 28; refine (hc _).mono ?_; rintro e w1 ⟨rfl, hb1⟩; have hA := (Blk.new w 39 [.string s, .int .i64 left]).belowS hb1; have a0 := hA.cell 0 rfl; have a1 := hA.cell 1 rfl; have al := hA.lt; have hw1 : Below w.heap.size w w1 := Below.trans (by go_grown) (hb1.mono (by simp)))
    | (go_at_call 36; refine (when_any _ _ _).mono ?_; rintro e w2 ⟨rfl, rfl⟩)
    | (go_at_call 35; refine (first2 _ _ _ _ _ (Blk.new' rfl _ _)).mono ?_; rintro e w2 ⟨rfl, rfl⟩))
  go_ret2
  exact ⟨congrArg (fun x => Ending.returned (Value.tuple #[Value.int .u64 0, Value.int .i64 x])) HE.out, by go_grown⟩

set_option maxHeartbeats 800000 in
theorem Peek_hi (s : ByteArray) (left n : Int) (w : World) (hs : s.size ≤ 1048577) (h : 32 < n) :
    Calls Try.prog 22 #[.agg #[.string s, .int .i64 left], .int .i64 n] w fun e w' => e = .returned (.tuple #[.int .u64 0, .int .i64 (askE s left n)]) ∧ Below w.heap.size w w' := by
  have hc := fun w => Right_any s left w hs
  have HE : Hid (firstNZ [rightE s left, ifB true 2] = askE s left n) := by
    show _ = firstNZ [_, ifB (decide _) 2]
    rw [decide_eq_true (show n < 0 ∨ 32 < n from .inr h)]
  have hE0 : (firstNZ [rightE s left, ifB true 2] != 0) = true := by
    simp only [firstNZ, ifB, if_true]; split <;> simp; omega
  have h0 : decide (n < 0) = false := decide_eq_false (by omega)
  have h1 := decide_eq_true h
  go_enter Try.func22, Try.ntmps22
  go_wp2_with (first
    | (go_at_call 28; refine (hc _).mono ?_; rintro e w1 ⟨rfl, hb1⟩; have hA := (Blk.new w 39 [.string s, .int .i64 left]).belowS hb1; have a0 := hA.cell 0 rfl; have a1 := hA.cell 1 rfl; have al := hA.lt; have hw1 : Below w.heap.size w w1 := Below.trans (by go_grown) (hb1.mono (by simp)))
    | (go_at_call 36; refine (when_any _ _ _).mono ?_; rintro e w2 ⟨rfl, rfl⟩)
    | (go_at_call 35; refine (first2 _ _ _ _ _ (Blk.new' rfl _ _)).mono ?_; rintro e w2 ⟨rfl, rfl⟩))
  go_ret2
  exact ⟨congrArg (fun x => Ending.returned (Value.tuple #[Value.int .u64 0, Value.int .i64 x])) HE.out, by go_grown⟩

set_option maxHeartbeats 800000 in
theorem Peek_mid (s : ByteArray) (left n : Int) (w : World) (hs : s.size ≤ 1048577) (hn0 : 0 ≤ n) (hn1 : n ≤ 32) (h : askE s left n ≠ 0) :
    Calls Try.prog 22 #[.agg #[.string s, .int .i64 left], .int .i64 n] w fun e w' => e = .returned (.tuple #[.int .u64 0, .int .i64 (askE s left n)]) ∧ Below w.heap.size w w' := by
  have hc := fun w => Right_any s left w hs
  have h1 : decide (n < 0) = false := decide_eq_false (by omega)
  have h2 : decide (32 < n) = false := decide_eq_false (by omega)
  have HE : Hid (firstNZ [rightE s left, ifB false 2] = askE s left n) := by
    show _ = firstNZ [_, ifB (decide _) 2]
    rw [decide_eq_false (show ¬ (n < 0 ∨ 32 < n) by omega)]
  have hE0 : (firstNZ [rightE s left, ifB false 2] != 0) = true := by
    rw [HE.out]; simpa using h
  go_enter Try.func22, Try.ntmps22
  go_wp2_with (first
    | (go_at_call 28; refine (hc _).mono ?_; rintro e w1 ⟨rfl, hb1⟩; have hA := (Blk.new w 39 [.string s, .int .i64 left]).belowS hb1; have a0 := hA.cell 0 rfl; have a1 := hA.cell 1 rfl; have al := hA.lt; have hw1 : Below w.heap.size w w1 := Below.trans (by go_grown) (hb1.mono (by simp)))
    | (go_at_call 36; refine (when_any _ _ _).mono ?_; rintro e w2 ⟨rfl, rfl⟩)
    | (go_at_call 35; refine (first2 _ _ _ _ _ (Blk.new' rfl _ _)).mono ?_; rintro e w2 ⟨rfl, rfl⟩))
  go_ret2
  exact ⟨congrArg (fun x => Ending.returned (Value.tuple #[Value.int .u64 0, Value.int .i64 x])) HE.out, by go_grown⟩

set_option maxHeartbeats 800000 in
theorem Peek_ok (s : ByteArray) (left n : Nat) (w : World) (hs : s.size ≤ 1048577) (h : askE s left n = 0) :
    Calls Try.prog 22 #[.agg #[.string s, .int .i64 left], .int .i64 n] w fun e w' => e = .returned (.tuple #[.int .u64 (pv s left n : Int), .int .i64 (askE s left n)]) ∧ Below w.heap.size w w' := by
  have hc := fun w => Right_any s left w hs
  obtain ⟨hr, hn0, hn1⟩ := askE_zero h
  obtain ⟨hs2, hl0, hl1, hl2⟩ := rightE_zero hr
  have h1 : decide ((n : Int) < 0) = false := decide_eq_false (by omega)
  have h2 : decide (32 < (n : Int)) = false := decide_eq_false (by omega)
  have HE : Hid (firstNZ [rightE s left, ifB false 2] = askE s left n) := by
    show _ = firstNZ [_, ifB (decide _) 2]
    rw [decide_eq_false (show ¬ ((n : Int) < 0 ∨ 32 < (n : Int)) by omega)]
  have hE0 : firstNZ [rightE s left, ifB false 2] = 0 := by
    rw [HE.out]; exact h
  go_enter Try.func22, Try.ntmps22
  go_wp2_with (first
    | (go_at_call 28; refine (hc _).mono ?_; rintro e w1 ⟨rfl, hb1⟩; have hA := (Blk.new w 39 [.string s, .int .i64 left]).belowS hb1; have a0 := hA.cell 0 rfl; have a1 := hA.cell 1 rfl; have al := hA.lt; have hw1 : Below w.heap.size w w1 := Below.trans (by go_grown) (hb1.mono (by simp)))
    | (go_at_call 36; refine (when_any _ _ _).mono ?_; rintro e w2 ⟨rfl, rfl⟩)
    | (go_at_call 35; refine (first2 _ _ _ _ _ (Blk.new' rfl _ _)).mono ?_; rintro e w2 ⟨rfl, rfl⟩))
  refine (number_any s left n (w1.heap.size + 1) _ hs (by omega) (by omega) ?_).mono ?_
  · exact Blk.new' (by simp) _ _
  rintro e w3 ⟨rfl, hb3⟩
  have hw3 : Below w.heap.size w w3 := Below.trans (by go_grown) (hb3.mono (by have := hw1.size; simp; omega))
  go_wp2
  go_ret2
  refine ⟨?_, hw3⟩
  rw [h]; rfl

theorem Peek_any (s : ByteArray) (left n : Int) (w : World) (hs : s.size ≤ 1048577) :
    Calls Try.prog 22 #[.agg #[.string s, .int .i64 left], .int .i64 n] w fun e w' => e = .returned (.tuple #[.int .u64 (peekV s left n), .int .i64 (askE s left n)]) ∧ Below w.heap.size w w' := by
  by_cases h : askE s left n = 0
  · rw [peekV, if_pos h]
    obtain ⟨hr, hn0, hn1⟩ := askE_zero h
    obtain ⟨hs2, hl0, hl1, hl2⟩ := rightE_zero hr
    obtain ⟨K, rfl⟩ := Int.eq_ofNat_of_zero_le hn0
    obtain ⟨L, rfl⟩ := Int.eq_ofNat_of_zero_le hl0
    exact Peek_ok s L K w hs h
  · rw [peekV, if_neg h]
    by_cases h1 : n < 0
    · exact Peek_lo s left n w hs h1
    · by_cases h2 : 32 < n
      · exact Peek_hi s left n w hs h2
      · exact Peek_mid s left n w hs (by omega) (by omega) h

end Go.Proofs.Ytlmoenjggggpkaa
namespace Go.Proofs.Ytlmoenjggggpkaa
open Go.RowKit Go.Chz
set_option linter.unusedVariables false

theorem bit_u8 : ∀ b : Fin 256, ∀ j : Fin 8, bits BinOp.and IntKind.u8 ((b.val : Int) / 2 ^ j.val) 1 = ((b.val / 2 ^ j.val % 2 : Nat) : Int) := by decide +kernel
def takeE (s : ByteArray) (left n : Int) : Int := firstNZ [askE s left n, ifB (decide (left < n)) 5]
theorem firstNZ_l {a b : Int} (h : a ≠ 0) : firstNZ [a, b] = a := by simp [firstNZ, h]
theorem firstNZ_r {b : Int} : firstNZ [0, b] = b := by
  by_cases h : b = 0 <;> simp [firstNZ, h]
theorem takeE_zero {s : ByteArray} {left n : Int} (h : takeE s left n = 0) : askE s left n = 0 ∧ n ≤ left := by
  unfold takeE at h
  by_cases h1 : askE s left n = 0
  · rw [h1, firstNZ_r] at h
    by_cases h2 : left < n
    · rw [decide_eq_true h2] at h; cases h
    · exact ⟨h1, by omega⟩
  · rw [firstNZ_l h1] at h; exact absurd h h1
def tkS (s : ByteArray) (left n : Int) : ByteArray := if takeE s left n = 0 then s else ⟨#[]⟩
def tkL (s : ByteArray) (left n : Int) : Int := if takeE s left n = 0 then left - n else 0
def tkV (s : ByteArray) (left n : Int) : Int := if takeE s left n = 0 then peekV s left n else 0

set_option maxHeartbeats 800000 in
theorem Take_bad (s : ByteArray) (left n : Int) (w : World) (hs : s.size ≤ 1048577) (h : takeE s left n ≠ 0) :
    Calls Try.prog 21 #[.agg #[.string s, .int .i64 left], .int .i64 n] w fun e w' => e = .returned (.tuple #[.agg #[.string ⟨#[]⟩, .int .i64 0], .int .u64 0, .int .i64 (takeE s left n)]) ∧ Below w.heap.size w w' := by
  have hc := fun w => Peek_any s left n w hs
  have HE : Hid (firstNZ [askE s left n, ifB (decide (left < n)) 5] = takeE s left n) := rfl
  have hE0 : (firstNZ [askE s left n, ifB (decide (left < n)) 5] != 0) = true := by simpa [takeE] using h
  go_enter Try.func21, Try.ntmps21
  go_wp2_with (first
    | (go_at_call 22; refine (hc _).mono ?_; rintro e w1 ⟨rfl, hb1⟩; have hA := ((Blk.new w 39 [.string s, .int .i64 left]).alloc (.cells #[.string ⟨#[]⟩, .int .i64 0] 39)).belowS hb1; have hR := (Blk.new' (w := w.alloc (.cells #[.string s, .int .i64 left] 39)) (H := w.heap.size + 1) (by simp) 39 [.string ⟨#[]⟩, .int .i64 0]).belowS hb1; have a0 := hA.cell 0 rfl; have a1 := hA.cell 1 rfl; have al := hA.lt; have x0 := hA.frozen 0; have x1 := hA.frozen 1; have r0 := hR.cell 0 rfl; have r1 := hR.cell 1 rfl; have g0 := hR.frozen 0; have g1 := hR.frozen 1; have rl := hR.lt; have hw1 : Below w.heap.size w w1 := Below.trans (by go_grown) (hb1.mono (by simp; omega)))
    | (go_at_call 36; refine (when_any _ _ _).mono ?_; rintro e w2 ⟨rfl, rfl⟩)
    | (go_at_call 35; refine (first2 _ _ _ _ _ (Blk.new' rfl _ _)).mono ?_; rintro e w2 ⟨rfl, rfl⟩))
  refine bodyPost_ret (v := .tuple #[.agg #[.string ⟨#[]⟩, .int .i64 0], .int .u64 0, .int .i64 _]) (results_3 rfl (res_cell (t := 39) (cs := [.string ⟨#[]⟩, .int .i64 0]) rfl (((hR.set 0 _).set 1 _).alloc _) Try.underlying39 rfl (by kernel_rfl)) rfl rfl) rfl ⟨congrArg (fun x => Ending.returned (Value.tuple #[.agg #[.string ⟨#[]⟩, .int .i64 0], Value.int .u64 0, Value.int .i64 x])) HE.out, ?_⟩
  go_grown

set_option maxHeartbeats 800000 in
theorem Take_ok (s : ByteArray) (left n : Int) (w : World) (hs : s.size ≤ 1048577) (h : takeE s left n = 0) :
    Calls Try.prog 21 #[.agg #[.string s, .int .i64 left], .int .i64 n] w fun e w' => e = .returned (.tuple #[.agg #[.string s, .int .i64 (left - n)], .int .u64 (peekV s left n), .int .i64 0]) ∧ Below w.heap.size w w' := by
  have hc := fun w => Peek_any s left n w hs
  have HE : Hid (firstNZ [askE s left n, ifB (decide (left < n)) 5] = takeE s left n) := rfl
  obtain ⟨hk, hln⟩ := takeE_zero h
  have hE0 : firstNZ [0, ifB (decide (left < n)) 5] = 0 := by have h2 := h; rw [takeE, hk] at h2; exact h2
  obtain ⟨hr, hn0, hn1⟩ := askE_zero hk
  obtain ⟨hs2, hl0, hl1, hl2⟩ := rightE_zero hr
  go_enter Try.func21, Try.ntmps21
  go_wp2_with (first
    | (go_at_call 22; refine (hc _).mono ?_; rintro e w1 ⟨rfl, hb1⟩; have hA := ((Blk.new w 39 [.string s, .int .i64 left]).alloc (.cells #[.string ⟨#[]⟩, .int .i64 0] 39)).belowS hb1; have hR := (Blk.new' (w := w.alloc (.cells #[.string s, .int .i64 left] 39)) (H := w.heap.size + 1) (by simp) 39 [.string ⟨#[]⟩, .int .i64 0]).belowS hb1; have a0 := hA.cell 0 rfl; have a1 := hA.cell 1 rfl; have al := hA.lt; have x0 := hA.frozen 0; have x1 := hA.frozen 1; have r0 := hR.cell 0 rfl; have r1 := hR.cell 1 rfl; have g0 := hR.frozen 0; have g1 := hR.frozen 1; have rl := hR.lt; have hw1 : Below w.heap.size w w1 := Below.trans (by go_grown) (hb1.mono (by simp; omega)))
    | (go_at_call 36; refine (when_any _ _ _).mono ?_; rintro e w2 ⟨rfl, rfl⟩)
    | (go_at_call 35; refine (first2 _ _ _ _ _ (Blk.new' rfl _ _)).mono ?_; rintro e w2 ⟨rfl, rfl⟩))
  refine bodyPost_ret (v := .tuple #[.agg #[.string s, .int .i64 (left - n)], .int .u64 (peekV s left n), .int .i64 0]) (results_3 rfl (res_cell (t := 39) (cs := [.string s, .int .i64 (left - n)]) rfl ((((hR.far (p := ⟨w.heap.size, 1, none⟩) (by simp) (.int .i64 (left - n))).set 0 (.string s)).set 1 (.int .i64 (left - n))).alloc _) Try.underlying39 rfl (by kernel_rfl)) rfl rfl) rfl ⟨rfl, ?_⟩
  go_grown

theorem Take_any (s : ByteArray) (left n : Int) (w : World) (hs : s.size ≤ 1048577) :
    Calls Try.prog 21 #[.agg #[.string s, .int .i64 left], .int .i64 n] w fun e w' => e = .returned (.tuple #[.agg #[.string (tkS s left n), .int .i64 (tkL s left n)], .int .u64 (tkV s left n), .int .i64 (takeE s left n)]) ∧ Below w.heap.size w w' := by
  by_cases h : takeE s left n = 0
  · rw [tkS, tkL, tkV, if_pos h, if_pos h, if_pos h, h]; exact Take_ok s left n w hs h
  · rw [tkS, tkL, tkV, if_neg h, if_neg h, if_neg h]; exact Take_bad s left n w hs h

set_option maxHeartbeats 800000 in
theorem Skip_any (s : ByteArray) (left n : Int) (w : World) (hs : s.size ≤ 1048577) :
    Calls Try.prog 27 #[.agg #[.string s, .int .i64 left], .int .i64 n] w fun e w' => e = .returned (.tuple #[.agg #[.string (tkS s left n), .int .i64 (tkL s left n)], .int .i64 (takeE s left n)]) ∧ Below w.heap.size w w' := by
  have hc := fun w => Take_any s left n w hs
  obtain ⟨S, hS⟩ : ∃ x, x = tkS s left n := ⟨_, rfl⟩
  obtain ⟨L, hL⟩ : ∃ x, x = tkL s left n := ⟨_, rfl⟩
  obtain ⟨V, hV⟩ : ∃ x, x = tkV s left n := ⟨_, rfl⟩
  obtain ⟨E, hE⟩ : ∃ x, x = takeE s left n := ⟨_, rfl⟩
  rw [← hS, ← hL, ← hV, ← hE] at hc
  rw [← hS, ← hL, ← hE]
  clear hS hL hV hE
  go_enter Try.func27, Try.ntmps27
  go_wp2_with (first
    | (go_at_call 21; refine (hc _).mono ?_; rintro e w1 ⟨rfl, hb1⟩; have hA := ((Blk.new w 39 [.string s, .int .i64 left]).alloc (.cells #[.string ⟨#[]⟩, .int .i64 0] 39)).belowS hb1; have hR := (Blk.new' (w := w.alloc (.cells #[.string s, .int .i64 left] 39)) (H := w.heap.size + 1) (by simp) 39 [.string ⟨#[]⟩, .int .i64 0]).belowS hb1; have a0 := hA.cell 0 rfl; have a1 := hA.cell 1 rfl; have al := hA.lt; have x0 := hA.frozen 0; have x1 := hA.frozen 1; have r0 := hR.cell 0 rfl; have r1 := hR.cell 1 rfl; have g0 := hR.frozen 0; have g1 := hR.frozen 1; have rl := hR.lt; have hw1 : Below w.heap.size w w1 := Below.trans (by go_grown) (hb1.mono (by simp; omega))))
  refine bodyPost_ret (v := .tuple #[.agg #[.string S, .int .i64 L], .int .i64 E]) (results_2 rfl (res_cell (t := 39) (cs := [.string S, .int .i64 L]) rfl (((hR.set 0 _).set 1 _).alloc _) Try.underlying39 rfl (by kernel_rfl)) rfl) rfl ⟨rfl, ?_⟩
  go_grown

set_option maxHeartbeats 800000 in
theorem asked_bad (s : ByteArray) (left n : Int) (w : World) (hs : s.size ≤ 1048577) (h : (rightE s left == 0) = false) :
    Calls Try.prog 42 #[.agg #[.string s, .int .i64 left], .int .i64 n] w fun e w' => e = .returned (.int .i64 (rightE s left)) ∧ Below w.heap.size w w' := by
  have hc := fun w => rRight_any s left w hs
  go_enter Try.func42, Try.ntmps42
  go_wp2_with (first
    | (go_at_call 31; refine (hc _).mono ?_; rintro e w1 ⟨rfl, hb1⟩; have hw1 : Below w.heap.size w w1 := Below.trans (by go_grown) (hb1.mono (by simp))))
  go_ret
  exact ⟨rfl, hw1⟩

set_option maxHeartbeats 800000 in
theorem asked_lo (s : ByteArray) (left n : Int) (w : World) (hs : s.size ≤ 1048577) (h : rightE s left = 0) (h1 : decide (n < 0) = true) :
    Calls Try.prog 42 #[.agg #[.string s, .int .i64 left], .int .i64 n] w fun e w' => e = .returned (.int .i64 2) ∧ Below w.heap.size w w' := by
  have hc := fun w => rRight_any s left w hs
  rw [h] at hc
  go_enter Try.func42, Try.ntmps42
  go_wp2_with (first
    | (go_at_call 31; refine (hc _).mono ?_; rintro e w1 ⟨rfl, hb1⟩; have hw1 : Below w.heap.size w w1 := Below.trans (by go_grown) (hb1.mono (by simp))))
  go_ret
  exact ⟨rfl, hw1⟩

set_option maxHeartbeats 800000 in
theorem asked_hi (s : ByteArray) (left n : Int) (w : World) (hs : s.size ≤ 1048577) (h : rightE s left = 0) (h1 : decide (n < 0) = false) (h2 : decide (32 < n) = true) :
    Calls Try.prog 42 #[.agg #[.string s, .int .i64 left], .int .i64 n] w fun e w' => e = .returned (.int .i64 2) ∧ Below w.heap.size w w' := by
  have hc := fun w => rRight_any s left w hs
  rw [h] at hc
  go_enter Try.func42, Try.ntmps42
  go_wp2_with (first
    | (go_at_call 31; refine (hc _).mono ?_; rintro e w1 ⟨rfl, hb1⟩; have hw1 : Below w.heap.size w w1 := Below.trans (by go_grown) (hb1.mono (by simp))))
  go_ret
  exact ⟨rfl, hw1⟩

set_option maxHeartbeats 800000 in
theorem asked_in (s : ByteArray) (left n : Int) (w : World) (hs : s.size ≤ 1048577) (h : rightE s left = 0) (h1 : decide (n < 0) = false) (h2 : decide (32 < n) = false) :
    Calls Try.prog 42 #[.agg #[.string s, .int .i64 left], .int .i64 n] w fun e w' => e = .returned (.int .i64 0) ∧ Below w.heap.size w w' := by
  have hc := fun w => rRight_any s left w hs
  rw [h] at hc
  go_enter Try.func42, Try.ntmps42
  go_wp2_with (first
    | (go_at_call 31; refine (hc _).mono ?_; rintro e w1 ⟨rfl, hb1⟩; have hw1 : Below w.heap.size w w1 := Below.trans (by go_grown) (hb1.mono (by simp))))
  go_ret
  exact ⟨rfl, hw1⟩

theorem asked_any (s : ByteArray) (left n : Int) (w : World) (hs : s.size ≤ 1048577) :
    Calls Try.prog 42 #[.agg #[.string s, .int .i64 left], .int .i64 n] w fun e w' => e = .returned (.int .i64 (askE s left n)) ∧ Below w.heap.size w w' := by
  by_cases h : rightE s left = 0
  · by_cases h1 : n < 0
    · have e : askE s left n = 2 := by rw [askE, h, askB, decide_eq_true (.inl h1)]; rfl
      rw [e]; exact asked_lo s left n w hs h (decide_eq_true h1)
    · by_cases h2 : 32 < n
      · have e : askE s left n = 2 := by rw [askE, h, askB, decide_eq_true (.inr h2)]; rfl
        rw [e]; exact asked_hi s left n w hs h (decide_eq_false h1) (decide_eq_true h2)
      · have e : askE s left n = 0 := by rw [askE, h, askB, decide_eq_false (by omega)]; rfl
        rw [e]; exact asked_in s left n w hs h (decide_eq_false h1) (decide_eq_false h2)
  · have e : askE s left n = rightE s left := by rw [askE]; exact firstNZ_l h
    rw [e]; exact asked_bad s left n w hs (by simpa using h)

end Go.Proofs.Ytlmoenjggggpkaa
namespace Go.Proofs.Ytlmoenjggggpkaa
open Go.RowKit Go.Chz
set_option linter.unusedVariables false

set_option maxHeartbeats 800000 in
theorem rPeek_bad (s : ByteArray) (left n E : Int) (w : World) (hc : ∀ w, Calls Try.prog 42 #[.agg #[.string s, .int .i64 left], .int .i64 n] w fun e w' => e = .returned (.int .i64 E) ∧ Below w.heap.size w w') (h : (E != 0) = true) :
    Calls Try.prog 33 #[.agg #[.string s, .int .i64 left], .int .i64 n] w fun e w' => e = .returned (.tuple #[.int .u64 0, .int .i64 E]) ∧ Below w.heap.size w w' := by
  go_enter Try.func33, Try.ntmps33
  go_wp2_with (first
    | (go_at_call 42; refine (hc _).mono ?_; rintro e w1 ⟨rfl, hb1⟩; have hA := (Blk.new w 39 [.string s, .int .i64 left]).belowS hb1; have a0 := hA.cell 0 rfl; have a1 := hA.cell 1 rfl; have al := hA.lt; have hw1 : Below w.heap.size w w1 := Below.trans (by go_grown) (hb1.mono (by simp))))
  go_ret2
  exact ⟨rfl, hw1⟩

theorem bitAt_u8 (s : ByteArray) (i : Nat) (b : UInt8) (hi : i / 8 < s.size) (hb : s[i / 8] = b) : bits BinOp.and IntKind.u8 ((b.toNat : Int) / 2 ^ (i % 8)) 1 = (bitAt s i : Int) := by
  have h := bit_u8 ⟨b.toNat, b.toNat_lt⟩ ⟨i % 8, by omega⟩
  rw [bitAt, dif_pos hi, hb]; exact h

set_option maxHeartbeats 1600000 in
theorem rPeek_ok (s : ByteArray) (L K : Nat) (w : World) (hs : s.size ≤ 1048577) (hL : L ≤ 8 * s.size) (hK : K ≤ 32) (hc : ∀ w, Calls Try.prog 42 #[.agg #[.string s, .int .i64 L], .int .i64 K] w fun e w' => e = .returned (.int .i64 0) ∧ Below w.heap.size w w') :
    Calls Try.prog 33 #[.agg #[.string s, .int .i64 L], .int .i64 K] w fun e w' => e = .returned (.tuple #[.int .u64 (pv s L K), .int .i64 0]) ∧ Below w.heap.size w w' := by
  go_enter Try.func33, Try.ntmps33
  go_wp2_with (first
    | (go_at_call 42; refine (hc _).mono ?_; rintro e w1 ⟨rfl, hb1⟩; have hA := (Blk.new w 39 [.string s, .int .i64 L]).belowS hb1; have a0 := hA.cell 0 rfl; have a1 := hA.cell 1 rfl; have al := hA.lt; have hw1 : Below w.heap.size w w1 := Below.trans (by go_grown) (hb1.mono (by simp))))
  go_loopg [7, 8] K (fun q out i wr => ∃ j : Nat, q + j = K ∧ i = .int .i64 j ∧ out = .int .u64 (pv s L j) ∧ wr = w1)
  case atStart =>
    exact ⟨0, rfl, rfl, rfl, rfl⟩
  case round =>
    obtain ⟨j, hq, rfl, rfl, rfl⟩ := hrel
    by_cases hj : j < K
    · have hlt := pv_lt s L j
      have hp := pow_le_of (show j ≤ 31 by omega)
      obtain ⟨P, hP⟩ : ∃ P, P = pv s L j := ⟨_, rfl⟩
      rw [← hP] at hlt ⊢
      have hPb : P < 2147483648 := by omega
      have HP := Lib.hid hP
      clear hP hlt hp
      by_cases hjL : j < L
      · have hat : ((L - 1 - j : Nat) : Int) = (L : Int) - 1 - j := by omega
        have hi : (L - 1 - j) / 8 < s.size := by omega
        obtain ⟨i, hA⟩ : ∃ a, a = L - 1 - j := ⟨_, rfl⟩
        rw [← hA] at hat hi
        have HA := Lib.hid hA
        have hat' := hat.symm
        obtain ⟨b, hb⟩ : ∃ b, s[i / 8] = b := ⟨_, rfl⟩
        have hb8 := bitAt_u8 s i b hi hb
        have hbl := bitAt_lt s i
        obtain ⟨B, hB⟩ : ∃ B, B = bitAt s i := ⟨_, rfl⟩
        rw [← hB] at hb8 hbl
        have HB := Lib.hid hB
        have hq1 : (i : Int).tdiv 8 = ((i / 8 : Nat) : Int) := by rw [Int.tdiv_eq_ediv_of_nonneg (by omega)]; omega
        have hr1 : (i : Int).tmod 8 = ((i % 8 : Nat) : Int) := by rw [Int.tmod_eq_emod_of_nonneg (by omega)]; omega
        clear hA hat hB
        go_wp2
        go_roundg (gk - 1)
        case measure => omega
        case rel =>
          refine ⟨j + 1, by omega, rfl, ?_, rfl⟩
          rw [pv, if_pos hjL, ← HP.out, ← HA.out, ← HB.out]
          congr 1; omega
      · go_wp2
        go_roundg (gk - 1)
        case measure => omega
        case rel =>
          refine ⟨j + 1, by omega, rfl, ?_, rfl⟩
          rw [pv, if_neg hjL, ← HP.out]
          congr 1; omega
    · go_wp2
      have e : j = K := by omega
      subst e
      go_ret2
      exact ⟨rfl, hw1⟩

theorem rPeek_any (s : ByteArray) (left n : Int) (w : World) (hs : s.size ≤ 1048577) :
    Calls Try.prog 33 #[.agg #[.string s, .int .i64 left], .int .i64 n] w fun e w' => e = .returned (.tuple #[.int .u64 (peekV s left n), .int .i64 (askE s left n)]) ∧ Below w.heap.size w w' := by
  have hc := fun w => asked_any s left n w hs
  by_cases h : askE s left n = 0
  · rw [peekV, if_pos h]
    rw [h] at hc ⊢
    obtain ⟨hr, hn0, hn1⟩ := askE_zero h
    obtain ⟨hs2, hl0, hl1, hl2⟩ := rightE_zero hr
    obtain ⟨K, rfl⟩ := Int.eq_ofNat_of_zero_le hn0
    obtain ⟨L, rfl⟩ := Int.eq_ofNat_of_zero_le hl0
    exact rPeek_ok s L K w hs (by omega) (by omega) hc
  · rw [peekV, if_neg h]
    exact rPeek_bad s left n _ w hc (by simpa using h)

set_option maxHeartbeats 800000 in
theorem rSkip_bad (s : ByteArray) (left n : Int) (w : World) (hs : s.size ≤ 1048577) (h : (askE s left n != 0) = true) :
    Calls Try.prog 34 #[.agg #[.string s, .int .i64 left], .int .i64 n] w fun e w' => e = .returned (.tuple #[.agg #[.string ⟨#[]⟩, .int .i64 0], .int .i64 (askE s left n)]) ∧ Below w.heap.size w w' := by
  have hc := fun w => asked_any s left n w hs
  have h1 : (askE s left n == 0) = false := by simpa using h
  go_enter Try.func34, Try.ntmps34
  go_wp2_with (first
    | (go_at_call 42; refine (hc _).mono ?_; rintro e w1 ⟨rfl, hb1⟩; have hA := ((Blk.new w 39 [.string s, .int .i64 left]).alloc (.cells #[.string ⟨#[]⟩, .int .i64 0] 39)).belowS hb1; have hR := (Blk.new' (w := w.alloc (.cells #[.string s, .int .i64 left] 39)) (H := w.heap.size + 1) (by simp) 39 [.string ⟨#[]⟩, .int .i64 0]).belowS hb1; have a0 := hA.cell 0 rfl; have a1 := hA.cell 1 rfl; have al := hA.lt; have x0 := hA.frozen 0; have x1 := hA.frozen 1; have r0 := hR.cell 0 rfl; have r1 := hR.cell 1 rfl; have g0 := hR.frozen 0; have g1 := hR.frozen 1; have rl := hR.lt; have hw1 : Below w.heap.size w w1 := Below.trans (by go_grown) (hb1.mono (by simp; omega))))
  refine bodyPost_ret (v := .tuple #[.agg #[.string ⟨#[]⟩, .int .i64 0], .int .i64 (askE s left n)]) (results_2 rfl (res_cell (t := 39) (cs := [.string ⟨#[]⟩, .int .i64 0]) rfl ((hR.set 0 _).set 1 _) Try.underlying39 rfl (by kernel_rfl)) rfl) rfl ⟨rfl, ?_⟩
  go_grown

set_option maxHeartbeats 800000 in
theorem rSkip_short (s : ByteArray) (left n : Int) (w : World) (hs : s.size ≤ 1048577) (h : askE s left n = 0) (h1 : decide (left < n) = true) :
    Calls Try.prog 34 #[.agg #[.string s, .int .i64 left], .int .i64 n] w fun e w' => e = .returned (.tuple #[.agg #[.string ⟨#[]⟩, .int .i64 0], .int .i64 5]) ∧ Below w.heap.size w w' := by
  have hc := fun w => asked_any s left n w hs
  rw [h] at hc
  go_enter Try.func34, Try.ntmps34
  go_wp2_with (first
    | (go_at_call 42; refine (hc _).mono ?_; rintro e w1 ⟨rfl, hb1⟩; have hA := ((Blk.new w 39 [.string s, .int .i64 left]).alloc (.cells #[.string ⟨#[]⟩, .int .i64 0] 39)).belowS hb1; have hR := (Blk.new' (w := w.alloc (.cells #[.string s, .int .i64 left] 39)) (H := w.heap.size + 1) (by simp) 39 [.string ⟨#[]⟩, .int .i64 0]).belowS hb1; have a0 := hA.cell 0 rfl; have a1 := hA.cell 1 rfl; have al := hA.lt; have x0 := hA.frozen 0; have x1 := hA.frozen 1; have r0 := hR.cell 0 rfl; have r1 := hR.cell 1 rfl; have g0 := hR.frozen 0; have g1 := hR.frozen 1; have rl := hR.lt; have hw1 : Below w.heap.size w w1 := Below.trans (by go_grown) (hb1.mono (by simp; omega))))
  refine bodyPost_ret (v := .tuple #[.agg #[.string ⟨#[]⟩, .int .i64 0], .int .i64 5]) (results_2 rfl (res_cell (t := 39) (cs := [.string ⟨#[]⟩, .int .i64 0]) rfl ((hR.set 0 _).set 1 _) Try.underlying39 rfl (by kernel_rfl)) rfl) rfl ⟨rfl, ?_⟩
  go_grown

set_option maxHeartbeats 800000 in
theorem rSkip_ok (s : ByteArray) (left n : Int) (w : World) (hs : s.size ≤ 1048577) (h : askE s left n = 0) (h1 : decide (left < n) = false) :
    Calls Try.prog 34 #[.agg #[.string s, .int .i64 left], .int .i64 n] w fun e w' => e = .returned (.tuple #[.agg #[.string s, .int .i64 (left - n)], .int .i64 0]) ∧ Below w.heap.size w w' := by
  have hc := fun w => asked_any s left n w hs
  rw [h] at hc
  have hln : n ≤ left := by simpa using h1
  obtain ⟨hr, hn0, hn1⟩ := askE_zero h
  obtain ⟨hs2, hl0, hl1, hl2⟩ := rightE_zero hr
  go_enter Try.func34, Try.ntmps34
  go_wp2_with (first
    | (go_at_call 42; refine (hc _).mono ?_; rintro e w1 ⟨rfl, hb1⟩; have hA := ((Blk.new w 39 [.string s, .int .i64 left]).alloc (.cells #[.string ⟨#[]⟩, .int .i64 0] 39)).belowS hb1; have hR := (Blk.new' (w := w.alloc (.cells #[.string s, .int .i64 left] 39)) (H := w.heap.size + 1) (by simp) 39 [.string ⟨#[]⟩, .int .i64 0]).belowS hb1; have a0 := hA.cell 0 rfl; have a1 := hA.cell 1 rfl; have al := hA.lt; have x0 := hA.frozen 0; have x1 := hA.frozen 1; have r0 := hR.cell 0 rfl; have r1 := hR.cell 1 rfl; have g0 := hR.frozen 0; have g1 := hR.frozen 1; have rl := hR.lt; have hw1 : Below w.heap.size w w1 := Below.trans (by go_grown) (hb1.mono (by simp; omega))))
  refine bodyPost_ret (v := .tuple #[.agg #[.string s, .int .i64 (left - n)], .int .i64 0]) (results_2 rfl (res_cell (t := 39) (cs := [.string s, .int .i64 (left - n)]) rfl (((hR.far (p := ⟨w.heap.size, 1, none⟩) (by simp) (.int .i64 (left - n))).set 0 (.string s)).set 1 (.int .i64 (left - n))) Try.underlying39 rfl (by kernel_rfl)) rfl) rfl ⟨rfl, ?_⟩
  go_grown

theorem rSkip_any (s : ByteArray) (left n : Int) (w : World) (hs : s.size ≤ 1048577) :
    Calls Try.prog 34 #[.agg #[.string s, .int .i64 left], .int .i64 n] w fun e w' => e = .returned (.tuple #[.agg #[.string (tkS s left n), .int .i64 (tkL s left n)], .int .i64 (takeE s left n)]) ∧ Below w.heap.size w w' := by
  by_cases h : askE s left n = 0
  · by_cases h1 : left < n
    · have e : takeE s left n = 5 := by rw [takeE, h, decide_eq_true h1]; rfl
      rw [tkS, tkL, e, if_neg (by decide), if_neg (by decide)]
      exact rSkip_short s left n w hs h (decide_eq_true h1)
    · have e : takeE s left n = 0 := by rw [takeE, h, decide_eq_false h1]; rfl
      rw [tkS, tkL, e, if_pos rfl, if_pos rfl]
      exact rSkip_ok s left n w hs h (decide_eq_false h1)
  · have e : takeE s left n = askE s left n := by rw [takeE]; exact firstNZ_l h
    rw [tkS, tkL, e, if_neg h, if_neg h]
    exact rSkip_bad s left n w hs (by simpa using h)

end Go.Proofs.Ytlmoenjggggpkaa
namespace Go.Proofs.Ytlmoenjggggpkaa
open Go.RowKit Go.Chz
set_option linter.unusedVariables false

set_option maxHeartbeats 800000 in
theorem rTake_bad (s : ByteArray) (left n : Int) (w : World) (hs : s.size ≤ 1048577) (h : (takeE s left n != 0) = true) :
    Calls Try.prog 32 #[.agg #[.string s, .int .i64 left], .int .i64 n] w fun e w' => e = .returned (.tuple #[.agg #[.string ⟨#[]⟩, .int .i64 0], .int .u64 0, .int .i64 (takeE s left n)]) ∧ Below w.heap.size w w' := by
  have hc := fun w => rSkip_any s left n w hs
  have e1 : tkS s left n = ⟨#[]⟩ := if_neg (by simpa using h)
  have e2 : tkL s left n = 0 := if_neg (by simpa using h)
  rw [e1, e2] at hc
  go_enter Try.func32, Try.ntmps32
  go_wp2_with (first
    | (go_at_call 34; refine (hc _).mono ?_; rintro e w1 ⟨rfl, hb1⟩; have hA := ((Blk.new w 39 [.string s, .int .i64 left]).alloc (.cells #[.string ⟨#[]⟩, .int .i64 0] 39)).belowS hb1; have hR := (Blk.new' (w := w.alloc (.cells #[.string s, .int .i64 left] 39)) (H := w.heap.size + 1) (by simp) 39 [.string ⟨#[]⟩, .int .i64 0]).belowS hb1; have a0 := hA.cell 0 rfl; have a1 := hA.cell 1 rfl; have al := hA.lt; have x0 := hA.frozen 0; have x1 := hA.frozen 1; have r0 := hR.cell 0 rfl; have r1 := hR.cell 1 rfl; have g0 := hR.frozen 0; have g1 := hR.frozen 1; have rl := hR.lt; have hw1 : Below w.heap.size w w1 := Below.trans (by go_grown) (hb1.mono (by simp; omega))))
  refine bodyPost_ret (v := .tuple #[.agg #[.string ⟨#[]⟩, .int .i64 0], .int .u64 0, .int .i64 (takeE s left n)]) (results_3 rfl (res_cell (t := 39) (cs := [.string ⟨#[]⟩, .int .i64 0]) rfl (((hR.set 0 _).set 1 _).alloc _) Try.underlying39 rfl (by kernel_rfl)) rfl rfl) rfl ⟨rfl, ?_⟩
  go_grown

set_option maxHeartbeats 800000 in
theorem rTake_ok (s : ByteArray) (left n : Int) (w : World) (hs : s.size ≤ 1048577) (h : takeE s left n = 0) :
    Calls Try.prog 32 #[.agg #[.string s, .int .i64 left], .int .i64 n] w fun e w' => e = .returned (.tuple #[.agg #[.string s, .int .i64 (left - n)], .int .u64 (peekV s left n), .int .i64 0]) ∧ Below w.heap.size w w' := by
  have hc := fun w => rSkip_any s left n w hs
  have hp := fun w => rPeek_any s left n w hs
  have e1 : tkS s left n = s := if_pos h
  have e2 : tkL s left n = left - n := if_pos h
  rw [e1, e2, h] at hc
  obtain ⟨hk, hln⟩ := takeE_zero h
  rw [hk] at hp
  go_enter Try.func32, Try.ntmps32
  go_wp2_with (first
    | (go_at_call 34; refine (hc _).mono ?_; rintro e w1 ⟨rfl, hb1⟩; have hA := ((Blk.new w 39 [.string s, .int .i64 left]).alloc (.cells #[.string ⟨#[]⟩, .int .i64 0] 39)).belowS hb1; have hR := (Blk.new' (w := w.alloc (.cells #[.string s, .int .i64 left] 39)) (H := w.heap.size + 1) (by simp) 39 [.string ⟨#[]⟩, .int .i64 0]).belowS hb1; have a0 := hA.cell 0 rfl; have a1 := hA.cell 1 rfl; have al := hA.lt; have x0 := hA.frozen 0; have x1 := hA.frozen 1; have r0 := hR.cell 0 rfl; have r1 := hR.cell 1 rfl; have g0 := hR.frozen 0; have g1 := hR.frozen 1; have rl := hR.lt; have hw1 : Below w.heap.size w w1 := Below.trans (by go_grown) (hb1.mono (by simp; omega))))
  refine (hp _).mono ?_
  rintro e w2 ⟨rfl, hb2⟩
  have hA2 := (hA.alloc (.cells #[.string s, .int .i64 (left - n)] 39)).belowS hb2
  have hR2 := (hR.alloc (.cells #[.string s, .int .i64 (left - n)] 39)).belowS hb2
  have hN2 := (Blk.new w1 39 [.string s, .int .i64 (left - n)]).belowS hb2
  have hz := hw1.size
  have hw2 : Below w.heap.size w w2 := (hw1.alloc hz _).trans (hb2.mono (by simp; omega))
  have c0 := hN2.cell 0 rfl
  have c1 := hN2.cell 1 rfl
  have cl := hN2.lt
  have r0 := hR2.cell 0 rfl
  have r1 := hR2.cell 1 rfl
  have g0 := hR2.frozen 0
  have g1 := hR2.frozen 1
  have rl := hR2.lt
  go_wp2
  refine bodyPost_ret (v := .tuple #[.agg #[.string s, .int .i64 (left - n)], .int .u64 (peekV s left n), .int .i64 0]) (results_3 rfl (res_cell (t := 39) (cs := [.string s, .int .i64 (left - n)]) rfl ((hR2.set 0 _).set 1 _) Try.underlying39 rfl (by kernel_rfl)) rfl rfl) rfl ⟨rfl, ?_⟩
  go_grown

theorem rTake_any (s : ByteArray) (left n : Int) (w : World) (hs : s.size ≤ 1048577) :
    Calls Try.prog 32 #[.agg #[.string s, .int .i64 left], .int .i64 n] w fun e w' => e = .returned (.tuple #[.agg #[.string (tkS s left n), .int .i64 (tkL s left n)], .int .u64 (tkV s left n), .int .i64 (takeE s left n)]) ∧ Below w.heap.size w w' := by
  by_cases h : takeE s left n = 0
  · rw [tkS, tkL, tkV, if_pos h, if_pos h, if_pos h, h]; exact rTake_ok s left n w hs h
  · rw [tkS, tkL, tkV, if_neg h, if_neg h, if_neg h]; exact rTake_bad s left n w hs (by simpa using h)

end Go.Proofs.Ytlmoenjggggpkaa
namespace Go.Proofs.Ytlmoenjggggpkaa
open Go.RowKit Go.Chz
set_option linter.unusedVariables false

set_option maxHeartbeats 800000 in
theorem law8_lo (s : ByteArray) (left n : Int) (w : World) (hs : (s.size : Int) ≤ 9223372036854775807) (h40 : decide (40 < (s.size : Int)) = true) (h : decide ((s.size : Int) < 1048576) = true) :
    Calls Try.prog 8 #[.agg #[.string s, .int .i64 left], .int .i64 n] w fun e w' => e = .returned (.bool true) ∧ Below w.heap.size w w' := by
  go_enter Try.func8, Try.ntmps8
  go_wp2_with (first | (go_at_call 9; refine (awake_any _).mono ?_; rintro e w1 ⟨rfl, hb1⟩; have hw1 : Below w.heap.size w w1 := Below.trans (by go_grown) (hb1.mono (by simp))))
  go_ret
  exact ⟨rfl, hw1⟩

set_option maxHeartbeats 800000 in
theorem law8_hi (s : ByteArray) (left n : Int) (w : World) (hs : (s.size : Int) ≤ 9223372036854775807) (h40 : decide (40 < (s.size : Int)) = true) (h : decide ((s.size : Int) < 1048576) = false) (h2 : decide (1048577 < (s.size : Int)) = true) :
    Calls Try.prog 8 #[.agg #[.string s, .int .i64 left], .int .i64 n] w fun e w' => e = .returned (.bool true) ∧ Below w.heap.size w w' := by
  go_enter Try.func8, Try.ntmps8
  go_wp2_with (first | (go_at_call 9; refine (awake_any _).mono ?_; rintro e w1 ⟨rfl, hb1⟩; have hw1 : Below w.heap.size w w1 := Below.trans (by go_grown) (hb1.mono (by simp))))
  go_ret
  exact ⟨rfl, hw1⟩

set_option maxRecDepth 100000 in
set_option maxHeartbeats 3200000 in
theorem law8_in1 (s : ByteArray) (left n : Int) (w : World) (hs : s.size ≤ 1048577) (h40 : decide (40 < (s.size : Int)) = false) :
    Calls Try.prog 8 #[.agg #[.string s, .int .i64 left], .int .i64 n] w fun e w' => e = .returned (.bool true) ∧ Below w.heap.size w w' := by
  have c18 := fun w => Bits_any s w hs
  have c29 := fun w => rBits_any s w hs
  have c19 := fun w => Read_any s w hs
  have c30 := fun w => rRead_any s w hs
  have c28 := fun w => Right_any s left w hs
  have c31 := fun w => rRight_any s left w hs
  have c21 := fun w => Take_any s left n w hs
  have c32 := fun w => rTake_any s left n w hs
  have c22 := fun w => Peek_any s left n w hs
  have c33 := fun w => rPeek_any s left n w hs
  have c27 := fun w => Skip_any s left n w hs
  have c34 := fun w => rSkip_any s left n w hs
  obtain ⟨bn, hbn⟩ : ∃ x, x = bitsN s := ⟨_, rfl⟩
  obtain ⟨be, hbe⟩ : ∃ x, x = bitsE s := ⟨_, rfl⟩
  obtain ⟨rs, hrs⟩ : ∃ x, x = readS s := ⟨_, rfl⟩
  obtain ⟨re, hre⟩ : ∃ x, x = rightE s left := ⟨_, rfl⟩
  obtain ⟨ts, hts⟩ : ∃ x, x = tkS s left n := ⟨_, rfl⟩
  obtain ⟨tl, htl⟩ : ∃ x, x = tkL s left n := ⟨_, rfl⟩
  obtain ⟨tv, htv⟩ : ∃ x, x = tkV s left n := ⟨_, rfl⟩
  obtain ⟨te, hte⟩ : ∃ x, x = takeE s left n := ⟨_, rfl⟩
  obtain ⟨pk, hpk⟩ : ∃ x, x = peekV s left n := ⟨_, rfl⟩
  obtain ⟨ae, hae⟩ : ∃ x, x = askE s left n := ⟨_, rfl⟩
  rw [← hbn, ← hbe] at c18 c29
  rw [← hrs, ← hbn, ← hbe] at c19 c30
  rw [← hre] at c28 c31
  rw [← hts, ← htl, ← htv, ← hte] at c21 c32
  rw [← hpk, ← hae] at c22 c33
  rw [← hts, ← htl, ← hte] at c27 c34
  clear hbn hbe hrs hre hts htl htv hte hpk hae
  have hs2 : (s.size : Int) ≤ 9223372036854775807 := by omega
  clear hs
  go_enter Try.func8, Try.ntmps8
  go_wp2_with (first
    | (go_at_call 18; refine (c18 _).mono ?_; rintro e w1 ⟨rfl, hb1⟩; have hA1 := (Blk.new w 39 [.string s, .int .i64 left]).belowS hb1; have hw1 : Below w.heap.size w w1 := Below.trans (by go_grown) (hb1.mono (by simp)); have a0 := hA1.cell 0 rfl; have a1 := hA1.cell 1 rfl; have al := hA1.lt; clear hb1)
    | (go_at_call 29; refine (c29 _).mono ?_; rintro e w2 ⟨rfl, hb2⟩; have hA2 := hA1.belowS hb2; have hw2 := hw1.trans (hb2.mono hw1.size); have a0 := hA2.cell 0 rfl; have a1 := hA2.cell 1 rfl; have al := hA2.lt; clear hb2)
    | (go_at_call 19; refine (c19 _).mono ?_; rintro e w3 ⟨rfl, hb3⟩; have hA3 := hA2.belowS hb3; have hw3 := hw2.trans (hb3.mono hw2.size); have a0 := hA3.cell 0 rfl; have a1 := hA3.cell 1 rfl; have al := hA3.lt; clear hb3)
    | (go_at_call 30; refine (c30 _).mono ?_; rintro e w4 ⟨rfl, hb4⟩; have hA4 := (hA3.alloc (.cells #[.string rs, .int .i64 bn] 39)).belowS hb4; have hR4 := (Blk.new w3 39 [.string rs, .int .i64 bn]).belowS hb4; have hz3 := hw3.size; have hw4 : Below w.heap.size w w4 := (hw3.alloc hz3 _).trans (hb4.mono (by simp; omega)); have a0 := hA4.cell 0 rfl; have a1 := hA4.cell 1 rfl; have al := hA4.lt; have r0 := hR4.cell 0 rfl; have r1 := hR4.cell 1 rfl; have rl := hR4.lt; clear hb4))
  refine abs (R := fun W => Code.wp _ _ _ _ W) (fun W => Below w.heap.size w W ∧ Blk W w.heap.size 39 [.string s, .int .i64 left] ∧ Blk W w3.heap.size 39 [.string rs, .int .i64 bn] ∧ Blk W w4.heap.size 39 [.string rs, .int .i64 bn])
    ⟨hw4.alloc hw4.size _, hA4.alloc _, hR4.alloc _, Blk.new _ _ _⟩ ?_
  rintro v0 ⟨hv0, hA5, hR5, hQ5⟩
  have a0 := hA5.cell 0 rfl; have a1 := hA5.cell 1 rfl; have al := hA5.lt
  have r0 := hR5.cell 0 rfl; have r1 := hR5.cell 1 rfl; have rl := hR5.lt
  have q0 := hQ5.cell 0 rfl; have q1 := hQ5.cell 1 rfl; have ql := hQ5.lt
  refine wp_region_B
    [(0, true), (1, true), (2, true), (3, true), (4, true), (5, true), (6, true), (7, true), (8, true), (9, true), (10, true), (11, true), (12, true), (13, true), (14, true), (15, true), (16, true), (17, true), (18, true), (19, true), (21, true), (20, false), (22, false), (23, true), (24, true)]
    (by kernel_rfl) (by kernel_rfl) (fun c a d v w h => by cases d <;> exact h) (fun hS1 => ?_)
  repeat (first
    | (refine wpS_nil ?_)
    | (refine wpS_skip (o := ⟨_, _, _, _, _, _⟩) rfl ?_ ?_; (focus rfl); simp only [Act.put, List.setIfInBounds_toArray, List.set_cons_zero, List.set_cons_succ])
    | (refine wpS_lightB (o := ⟨_, _, _, _, _, _⟩) (v := ?_) rfl ?_ (fun w' hS' => ?_) ?_; rotate_left; (focus rfl); (focus (go_simp; try with_reducible rfl)); simp only [Act.put, List.setIfInBounds_toArray, List.set_cons_zero, List.set_cons_succ])
    | (refine wpS_heavyB hS1 (o := ⟨_, _, _, _, _, _⟩) rfl ?_ (fun K hK => ?_); (focus rfl)
       go_wp2_with (first
         | (go_at_call 28; refine (c28 _).mono ?_; rintro e w1 ⟨rfl, hb1⟩)
         | (go_at_call 31; refine (c31 _).mono ?_; rintro e w1 ⟨rfl, hb1⟩))
       refine ⟨?_, fun hS1 => ?_⟩
       · first | exact Below.refl _ _ | exact hb1 | exact (Below.refl _ _).alloc (Nat.le_refl _) _)
    | (refine wpS_hskip hS1 (o := ⟨_, _, _, _, _, _⟩) rfl ?_ ?_; (focus rfl); simp only [Act.put, List.setIfInBounds_toArray, List.set_cons_zero, List.set_cons_succ]))
  have hzz : w.heap.size < w3.heap.size ∧ w3.heap.size < w4.heap.size := ⟨hA3.lt, hR4.lt⟩
  have hww : w.heap.size ≤ w3.heap.size := by omega
  refine abs (R := fun W => Exit.then _ _ _ _ W) (fun W => Below w.heap.size w W ∧ Blk W w.heap.size 39 [.string s, .int .i64 left] ∧ Blk W w3.heap.size 39 [.string rs, .int .i64 bn] ∧ Blk W w4.heap.size 39 [.string rs, .int .i64 bn])
    ⟨hv0.trans (hS1.mono hv0.size), hA5.belowS hS1, hR5.belowS hS1, hQ5.belowS hS1⟩ ?_
  clear hS1 hA5 hR5 hQ5 hv0 hA1 hA2 hA3 hA4 hR4 hw1 hw2 hw3 hw4
  rintro w5 ⟨hw5, hA5, hR5, hQ5⟩
  have hz1 := hzz.1
  have hz2 := hzz.2
  have hne : w4.heap.size ≠ w3.heap.size := by omega
  have hwb : w.heap.size ≤ w4.heap.size := by omega
  clear hzz
  have a0 := hA5.cell 0 rfl; have a1 := hA5.cell 1 rfl; have al := hA5.lt
  have r0 := hR5.cell 0 rfl; have r1 := hR5.cell 1 rfl; have rl := hR5.lt; have rf0 := hR5.frozen 0; have rf1 := hR5.frozen 1
  have q0 := hQ5.cell 0 rfl; have q1 := hQ5.cell 1 rfl; have ql := hQ5.lt; have qf0 := hQ5.frozen 0; have qf1 := hQ5.frozen 1
  go_wp2_with (first
    | (go_at_call 21; refine (c21 _).mono ?_; rintro e w6 ⟨rfl, hb⟩; have hA6 := hA5.belowS hb; have hR6 := hR5.belowS hb; have hQ6 := hQ5.belowS hb; have hw6 := hw5.trans (hb.mono hw5.size); have a0 := hA6.cell 0 rfl; have a1 := hA6.cell 1 rfl; have al := hA6.lt; clear hb)
    | (go_at_call 32; refine (c32 _).mono ?_; rintro e w7 ⟨rfl, hb⟩; have hA7 := (hA6.alloc (.cells #[.string ts, .int .i64 tl] 39)).belowS hb; have hR7 := (hR6.alloc (.cells #[.string ts, .int .i64 tl] 39)).belowS hb; have hQ7 := (hQ6.alloc (.cells #[.string ts, .int .i64 tl] 39)).belowS hb; have hX7 := (Blk.new w6 39 [.string ts, .int .i64 tl]).belowS hb; have hz6 := hw6.size; have hw7 : Below w.heap.size w w7 := (hw6.alloc hz6 _).trans (hb.mono (by simp; omega)); have a0 := hA7.cell 0 rfl; have a1 := hA7.cell 1 rfl; have al := hA7.lt; have x0 := hX7.cell 0 rfl; have x1 := hX7.cell 1 rfl; have xl := hX7.lt; clear hb)
    | (go_at_call 22; refine (c22 _).mono ?_; rintro e w8 ⟨rfl, hb⟩; have hA8 := (hA7.alloc (.cells #[.string ts, .int .i64 tl] 39)).belowS hb; have hR8 := (hR7.alloc (.cells #[.string ts, .int .i64 tl] 39)).belowS hb; have hQ8 := (hQ7.alloc (.cells #[.string ts, .int .i64 tl] 39)).belowS hb; have hz7 := hw7.size; have hw8 : Below w.heap.size w w8 := (hw7.alloc hz7 _).trans (hb.mono (by simp; omega)); have a0 := hA8.cell 0 rfl; have a1 := hA8.cell 1 rfl; have al := hA8.lt; clear hb)
    | (go_at_call 33; refine (c33 _).mono ?_; rintro e w9 ⟨rfl, hb⟩; have hA9 := hA8.belowS hb; have hR9 := hR8.belowS hb; have hQ9 := hQ8.belowS hb; have hw9 := hw8.trans (hb.mono hw8.size); have a0 := hA9.cell 0 rfl; have a1 := hA9.cell 1 rfl; have al := hA9.lt; clear hb)
    | (go_at_call 27; refine (c27 _).mono ?_; rintro e w10 ⟨rfl, hb⟩; have hA10 := hA9.belowS hb; have hR10 := hR9.belowS hb; have hQ10 := hQ9.belowS hb; have hw10 := hw9.trans (hb.mono hw9.size); have a0 := hA10.cell 0 rfl; have a1 := hA10.cell 1 rfl; have al := hA10.lt; have r0 := hR10.cell 0 rfl; have r1 := hR10.cell 1 rfl; have rl := hR10.lt; have rf0 := hR10.frozen 0; have rf1 := hR10.frozen 1; clear hb)
    | (go_at_call 34; refine (c34 _).mono ?_; rintro e w11 ⟨rfl, hb⟩; have hR11 := ((hR10.set 0 (.string ts)).set 1 (.int .i64 tl)).belowS hb; have hQ11 := ((hQ10.far (p := ⟨w3.heap.size, 0, none⟩) hne (.string ts)).far (p := ⟨w3.heap.size, 1, none⟩) hne (.int .i64 tl)).belowS hb; have hz10 := hw10.size; have hw11 : Below w.heap.size w w11 := ((hw10.setCell (p := ⟨w3.heap.size, 0, none⟩) hww (.string ts)).setCell (p := ⟨w3.heap.size, 1, none⟩) hww (.int .i64 tl)).trans (hb.mono (by simp; omega)); have r0 := hR11.cell 0 rfl; have r1 := hR11.cell 1 rfl; have rl := hR11.lt; have rf0 := hR11.frozen 0; have rf1 := hR11.frozen 1; have q0 := hQ11.cell 0 rfl; have q1 := hQ11.cell 1 rfl; have ql := hQ11.lt; have qf0 := hQ11.frozen 0; have qf1 := hQ11.frozen 1; clear hb)
    | (go_at_call 9; refine (awake_any _).mono ?_; rintro e w12 ⟨rfl, hb⟩; have hz11 := hw11.size; have hw12 : Below w.heap.size w w12 := ((hw11.setCell (p := ⟨w4.heap.size, 0, none⟩) hwb (.string ts)).setCell (p := ⟨w4.heap.size, 1, none⟩) hwb (.int .i64 tl)).trans (hb.mono (by simp; omega)); clear hb))
  go_ret
  exact ⟨rfl, hw12⟩

set_option maxRecDepth 100000 in
set_option maxHeartbeats 3200000 in
theorem law8_in2 (s : ByteArray) (left n : Int) (w : World) (hs : s.size ≤ 1048577) (h40 : decide (40 < (s.size : Int)) = true) (hlo : decide ((s.size : Int) < 1048576) = false) (hhi : decide (1048577 < (s.size : Int)) = false) :
    Calls Try.prog 8 #[.agg #[.string s, .int .i64 left], .int .i64 n] w fun e w' => e = .returned (.bool true) ∧ Below w.heap.size w w' := by
  have c18 := fun w => Bits_any s w hs
  have c29 := fun w => rBits_any s w hs
  have c19 := fun w => Read_any s w hs
  have c30 := fun w => rRead_any s w hs
  have c28 := fun w => Right_any s left w hs
  have c31 := fun w => rRight_any s left w hs
  have c21 := fun w => Take_any s left n w hs
  have c32 := fun w => rTake_any s left n w hs
  have c22 := fun w => Peek_any s left n w hs
  have c33 := fun w => rPeek_any s left n w hs
  have c27 := fun w => Skip_any s left n w hs
  have c34 := fun w => rSkip_any s left n w hs
  obtain ⟨bn, hbn⟩ : ∃ x, x = bitsN s := ⟨_, rfl⟩
  obtain ⟨be, hbe⟩ : ∃ x, x = bitsE s := ⟨_, rfl⟩
  obtain ⟨rs, hrs⟩ : ∃ x, x = readS s := ⟨_, rfl⟩
  obtain ⟨re, hre⟩ : ∃ x, x = rightE s left := ⟨_, rfl⟩
  obtain ⟨ts, hts⟩ : ∃ x, x = tkS s left n := ⟨_, rfl⟩
  obtain ⟨tl, htl⟩ : ∃ x, x = tkL s left n := ⟨_, rfl⟩
  obtain ⟨tv, htv⟩ : ∃ x, x = tkV s left n := ⟨_, rfl⟩
  obtain ⟨te, hte⟩ : ∃ x, x = takeE s left n := ⟨_, rfl⟩
  obtain ⟨pk, hpk⟩ : ∃ x, x = peekV s left n := ⟨_, rfl⟩
  obtain ⟨ae, hae⟩ : ∃ x, x = askE s left n := ⟨_, rfl⟩
  rw [← hbn, ← hbe] at c18 c29
  rw [← hrs, ← hbn, ← hbe] at c19 c30
  rw [← hre] at c28 c31
  rw [← hts, ← htl, ← htv, ← hte] at c21 c32
  rw [← hpk, ← hae] at c22 c33
  rw [← hts, ← htl, ← hte] at c27 c34
  clear hbn hbe hrs hre hts htl htv hte hpk hae
  have hs2 : (s.size : Int) ≤ 9223372036854775807 := by omega
  clear hs
  go_enter Try.func8, Try.ntmps8
  go_wp2_with (first
    | (go_at_call 18; refine (c18 _).mono ?_; rintro e w1 ⟨rfl, hb1⟩; have hA1 := (Blk.new w 39 [.string s, .int .i64 left]).belowS hb1; have hw1 : Below w.heap.size w w1 := Below.trans (by go_grown) (hb1.mono (by simp)); have a0 := hA1.cell 0 rfl; have a1 := hA1.cell 1 rfl; have al := hA1.lt; clear hb1)
    | (go_at_call 29; refine (c29 _).mono ?_; rintro e w2 ⟨rfl, hb2⟩; have hA2 := hA1.belowS hb2; have hw2 := hw1.trans (hb2.mono hw1.size); have a0 := hA2.cell 0 rfl; have a1 := hA2.cell 1 rfl; have al := hA2.lt; clear hb2)
    | (go_at_call 19; refine (c19 _).mono ?_; rintro e w3 ⟨rfl, hb3⟩; have hA3 := hA2.belowS hb3; have hw3 := hw2.trans (hb3.mono hw2.size); have a0 := hA3.cell 0 rfl; have a1 := hA3.cell 1 rfl; have al := hA3.lt; clear hb3)
    | (go_at_call 30; refine (c30 _).mono ?_; rintro e w4 ⟨rfl, hb4⟩; have hA4 := (hA3.alloc (.cells #[.string rs, .int .i64 bn] 39)).belowS hb4; have hR4 := (Blk.new w3 39 [.string rs, .int .i64 bn]).belowS hb4; have hz3 := hw3.size; have hw4 : Below w.heap.size w w4 := (hw3.alloc hz3 _).trans (hb4.mono (by simp; omega)); have a0 := hA4.cell 0 rfl; have a1 := hA4.cell 1 rfl; have al := hA4.lt; have r0 := hR4.cell 0 rfl; have r1 := hR4.cell 1 rfl; have rl := hR4.lt; clear hb4))
  refine abs (R := fun W => Code.wp _ _ _ _ W) (fun W => Below w.heap.size w W ∧ Blk W w.heap.size 39 [.string s, .int .i64 left] ∧ Blk W w3.heap.size 39 [.string rs, .int .i64 bn] ∧ Blk W w4.heap.size 39 [.string rs, .int .i64 bn])
    ⟨hw4.alloc hw4.size _, hA4.alloc _, hR4.alloc _, Blk.new _ _ _⟩ ?_
  rintro v0 ⟨hv0, hA5, hR5, hQ5⟩
  have a0 := hA5.cell 0 rfl; have a1 := hA5.cell 1 rfl; have al := hA5.lt
  have r0 := hR5.cell 0 rfl; have r1 := hR5.cell 1 rfl; have rl := hR5.lt
  have q0 := hQ5.cell 0 rfl; have q1 := hQ5.cell 1 rfl; have ql := hQ5.lt
  refine wp_region_B
    [(0, true), (1, true), (2, true), (3, true), (4, true), (5, true), (6, true), (7, true), (8, true), (9, true), (10, true), (11, true), (12, true), (13, true), (14, true), (15, true), (16, true), (17, true), (18, true), (19, true), (21, true), (20, false), (22, false), (23, true), (24, true)]
    (by kernel_rfl) (by kernel_rfl) (fun c a d v w h => by cases d <;> exact h) (fun hS1 => ?_)
  repeat (first
    | (refine wpS_nil ?_)
    | (refine wpS_skip (o := ⟨_, _, _, _, _, _⟩) rfl ?_ ?_; (focus rfl); simp only [Act.put, List.setIfInBounds_toArray, List.set_cons_zero, List.set_cons_succ])
    | (refine wpS_lightB (o := ⟨_, _, _, _, _, _⟩) (v := ?_) rfl ?_ (fun w' hS' => ?_) ?_; rotate_left; (focus rfl); (focus (go_simp; try with_reducible rfl)); simp only [Act.put, List.setIfInBounds_toArray, List.set_cons_zero, List.set_cons_succ])
    | (refine wpS_heavyB hS1 (o := ⟨_, _, _, _, _, _⟩) rfl ?_ (fun K hK => ?_); (focus rfl)
       go_wp2_with (first
         | (go_at_call 28; refine (c28 _).mono ?_; rintro e w1 ⟨rfl, hb1⟩)
         | (go_at_call 31; refine (c31 _).mono ?_; rintro e w1 ⟨rfl, hb1⟩))
       refine ⟨?_, fun hS1 => ?_⟩
       · first | exact Below.refl _ _ | exact hb1 | exact (Below.refl _ _).alloc (Nat.le_refl _) _)
    | (refine wpS_hskip hS1 (o := ⟨_, _, _, _, _, _⟩) rfl ?_ ?_; (focus rfl); simp only [Act.put, List.setIfInBounds_toArray, List.set_cons_zero, List.set_cons_succ]))
  have hzz : w.heap.size < w3.heap.size ∧ w3.heap.size < w4.heap.size := ⟨hA3.lt, hR4.lt⟩
  have hww : w.heap.size ≤ w3.heap.size := by omega
  refine abs (R := fun W => Exit.then _ _ _ _ W) (fun W => Below w.heap.size w W ∧ Blk W w.heap.size 39 [.string s, .int .i64 left] ∧ Blk W w3.heap.size 39 [.string rs, .int .i64 bn] ∧ Blk W w4.heap.size 39 [.string rs, .int .i64 bn])
    ⟨hv0.trans (hS1.mono hv0.size), hA5.belowS hS1, hR5.belowS hS1, hQ5.belowS hS1⟩ ?_
  clear hS1 hA5 hR5 hQ5 hv0 hA1 hA2 hA3 hA4 hR4 hw1 hw2 hw3 hw4
  rintro w5 ⟨hw5, hA5, hR5, hQ5⟩
  have hz1 := hzz.1
  have hz2 := hzz.2
  have hne : w4.heap.size ≠ w3.heap.size := by omega
  have hwb : w.heap.size ≤ w4.heap.size := by omega
  clear hzz
  have a0 := hA5.cell 0 rfl; have a1 := hA5.cell 1 rfl; have al := hA5.lt
  have r0 := hR5.cell 0 rfl; have r1 := hR5.cell 1 rfl; have rl := hR5.lt; have rf0 := hR5.frozen 0; have rf1 := hR5.frozen 1
  have q0 := hQ5.cell 0 rfl; have q1 := hQ5.cell 1 rfl; have ql := hQ5.lt; have qf0 := hQ5.frozen 0; have qf1 := hQ5.frozen 1
  go_wp2_with (first
    | (go_at_call 21; refine (c21 _).mono ?_; rintro e w6 ⟨rfl, hb⟩; have hA6 := hA5.belowS hb; have hR6 := hR5.belowS hb; have hQ6 := hQ5.belowS hb; have hw6 := hw5.trans (hb.mono hw5.size); have a0 := hA6.cell 0 rfl; have a1 := hA6.cell 1 rfl; have al := hA6.lt; clear hb)
    | (go_at_call 32; refine (c32 _).mono ?_; rintro e w7 ⟨rfl, hb⟩; have hA7 := (hA6.alloc (.cells #[.string ts, .int .i64 tl] 39)).belowS hb; have hR7 := (hR6.alloc (.cells #[.string ts, .int .i64 tl] 39)).belowS hb; have hQ7 := (hQ6.alloc (.cells #[.string ts, .int .i64 tl] 39)).belowS hb; have hX7 := (Blk.new w6 39 [.string ts, .int .i64 tl]).belowS hb; have hz6 := hw6.size; have hw7 : Below w.heap.size w w7 := (hw6.alloc hz6 _).trans (hb.mono (by simp; omega)); have a0 := hA7.cell 0 rfl; have a1 := hA7.cell 1 rfl; have al := hA7.lt; have x0 := hX7.cell 0 rfl; have x1 := hX7.cell 1 rfl; have xl := hX7.lt; clear hb)
    | (go_at_call 22; refine (c22 _).mono ?_; rintro e w8 ⟨rfl, hb⟩; have hA8 := (hA7.alloc (.cells #[.string ts, .int .i64 tl] 39)).belowS hb; have hR8 := (hR7.alloc (.cells #[.string ts, .int .i64 tl] 39)).belowS hb; have hQ8 := (hQ7.alloc (.cells #[.string ts, .int .i64 tl] 39)).belowS hb; have hz7 := hw7.size; have hw8 : Below w.heap.size w w8 := (hw7.alloc hz7 _).trans (hb.mono (by simp; omega)); have a0 := hA8.cell 0 rfl; have a1 := hA8.cell 1 rfl; have al := hA8.lt; clear hb)
    | (go_at_call 33; refine (c33 _).mono ?_; rintro e w9 ⟨rfl, hb⟩; have hA9 := hA8.belowS hb; have hR9 := hR8.belowS hb; have hQ9 := hQ8.belowS hb; have hw9 := hw8.trans (hb.mono hw8.size); have a0 := hA9.cell 0 rfl; have a1 := hA9.cell 1 rfl; have al := hA9.lt; clear hb)
    | (go_at_call 27; refine (c27 _).mono ?_; rintro e w10 ⟨rfl, hb⟩; have hA10 := hA9.belowS hb; have hR10 := hR9.belowS hb; have hQ10 := hQ9.belowS hb; have hw10 := hw9.trans (hb.mono hw9.size); have a0 := hA10.cell 0 rfl; have a1 := hA10.cell 1 rfl; have al := hA10.lt; have r0 := hR10.cell 0 rfl; have r1 := hR10.cell 1 rfl; have rl := hR10.lt; have rf0 := hR10.frozen 0; have rf1 := hR10.frozen 1; clear hb)
    | (go_at_call 34; refine (c34 _).mono ?_; rintro e w11 ⟨rfl, hb⟩; have hR11 := ((hR10.set 0 (.string ts)).set 1 (.int .i64 tl)).belowS hb; have hQ11 := ((hQ10.far (p := ⟨w3.heap.size, 0, none⟩) hne (.string ts)).far (p := ⟨w3.heap.size, 1, none⟩) hne (.int .i64 tl)).belowS hb; have hz10 := hw10.size; have hw11 : Below w.heap.size w w11 := ((hw10.setCell (p := ⟨w3.heap.size, 0, none⟩) hww (.string ts)).setCell (p := ⟨w3.heap.size, 1, none⟩) hww (.int .i64 tl)).trans (hb.mono (by simp; omega)); have r0 := hR11.cell 0 rfl; have r1 := hR11.cell 1 rfl; have rl := hR11.lt; have rf0 := hR11.frozen 0; have rf1 := hR11.frozen 1; have q0 := hQ11.cell 0 rfl; have q1 := hQ11.cell 1 rfl; have ql := hQ11.lt; have qf0 := hQ11.frozen 0; have qf1 := hQ11.frozen 1; clear hb)
    | (go_at_call 9; refine (awake_any _).mono ?_; rintro e w12 ⟨rfl, hb⟩; have hz11 := hw11.size; have hw12 : Below w.heap.size w w12 := ((hw11.setCell (p := ⟨w4.heap.size, 0, none⟩) hwb (.string ts)).setCell (p := ⟨w4.heap.size, 1, none⟩) hwb (.int .i64 tl)).trans (hb.mono (by simp; omega)); clear hb))
  go_ret
  exact ⟨rfl, hw12⟩

theorem law8 (s : ByteArray) (left n : Int) (w : World) (hs : s.size ≤ maxLen) (w1 : (Lit.int .i64 left).wf = true) (w2 : (Lit.int .i64 n).wf = true) :
    Calls Try.prog 8 #[.agg #[.string s, .int .i64 left], .int .i64 n] w fun e w' => e = .returned (.bool true) ∧ Below w.heap.size w w' := by
  have hs' : (s.size : Int) ≤ 9223372036854775807 := by unfold maxLen at hs; omega
  by_cases h40 : 40 < (s.size : Int)
  · by_cases hlo : (s.size : Int) < 1048576
    · exact law8_lo s left n w hs' (decide_eq_true h40) (decide_eq_true hlo)
    · by_cases hhi : 1048577 < (s.size : Int)
      · exact law8_hi s left n w hs' (decide_eq_true h40) (decide_eq_false hlo) (decide_eq_true hhi)
      · exact law8_in2 s left n w (by omega) (decide_eq_true h40) (decide_eq_false hlo) (decide_eq_false hhi)
  · exact law8_in1 s left n w (by omega) (decide_eq_false h40)

end Go.Proofs.Ytlmoenjggggpkaa
namespace Go.Proofs.Ytlmoenjggggpkaa
open Go.RowKit Go.Chz
set_option linter.unusedVariables false

theorem Put_at {s t : ByteArray} {part n k v a b e0 : Int} (w : World) (hs : s.size ≤ 1048577) (hv : 0 ≤ v) (h : putE s.size part n k v = e0 ∧ putS s part n k v = t ∧ putP s part n k v = a ∧ putN s part n k v = b) :
    Calls Try.prog 10 #[.agg #[.string s, .int .i64 part, .int .i64 n], .int .i64 k, .int .u64 v] w fun e w' => e = .returned (.tuple #[.agg #[.string t, .int .i64 a, .int .i64 b], .int .i64 e0]) ∧ Below w.heap.size w w' := by
  obtain ⟨rfl, rfl, rfl, rfl⟩ := h
  exact Put_c s part n k v w hs hv
theorem Take_at {s t : ByteArray} {left n a b e0 : Int} (w : World) (hs : s.size ≤ 1048577) (h : takeE s left n = e0 ∧ tkS s left n = t ∧ tkL s left n = a ∧ tkV s left n = b) :
    Calls Try.prog 21 #[.agg #[.string s, .int .i64 left], .int .i64 n] w fun e w' => e = .returned (.tuple #[.agg #[.string t, .int .i64 a], .int .u64 b, .int .i64 e0]) ∧ Below w.heap.size w w' := by
  obtain ⟨rfl, rfl, rfl, rfl⟩ := h
  exact Take_any s left n w hs
theorem Skip_at {s t : ByteArray} {left n a e0 : Int} (w : World) (hs : s.size ≤ 1048577) (h : takeE s left n = e0 ∧ tkS s left n = t ∧ tkL s left n = a) :
    Calls Try.prog 27 #[.agg #[.string s, .int .i64 left], .int .i64 n] w fun e w' => e = .returned (.tuple #[.agg #[.string t, .int .i64 a], .int .i64 e0]) ∧ Below w.heap.size w w' := by
  obtain ⟨rfl, rfl, rfl⟩ := h
  exact Skip_any s left n w hs
theorem Read_at {s t : ByteArray} {a e0 : Int} (w : World) (hs : s.size ≤ 1048577) (h : bitsE s = e0 ∧ readS s = t ∧ bitsN s = a) :
    Calls Try.prog 19 #[.string s] w fun e w' => e = .returned (.tuple #[.agg #[.string t, .int .i64 a], .int .i64 e0]) ∧ Below w.heap.size w w' := by
  obtain ⟨rfl, rfl, rfl⟩ := h
  exact Read_any s w hs
theorem lbits_at {s : ByteArray} {a e0 : Int} (w : World) (hs : s.size ≤ 1048577) (h : bitsE s = e0 ∧ bitsN s = a) :
    Calls Try.prog 25 #[.string s, .int .i64 a, .int .i64 e0] w fun e w' => e = .returned (.bool true) ∧ Below w.heap.size w w' := by
  have hc := fun w => Bits_any s w hs
  rw [h.1, h.2] at hc
  go_enter Try.func25, Try.ntmps25
  go_wp2_with (first | (go_at_call 18; refine (hc _).mono ?_; rintro e w1 ⟨rfl, hb1⟩))
  go_ret
  exact ⟨rfl, hb1⟩
theorem peeks_at {s : ByteArray} {L n v : Int} (w : World) (hs : s.size ≤ 1048577) (h : bitsE s = 0 ∧ readS s = s ∧ bitsN s = L ∧ askE s L n = 0 ∧ peekV s L n = v) :
    Calls Try.prog 26 #[.string s, .int .i64 n, .int .u64 v] w fun e w' => e = .returned (.bool true) ∧ Below w.heap.size w w' := by
  have hc := fun w => Read_any s w hs
  have hp := fun w => Peek_any s L n w hs
  rw [h.1, h.2.1, h.2.2.1] at hc
  rw [h.2.2.2.1, h.2.2.2.2] at hp
  clear h
  go_enter Try.func26, Try.ntmps26
  go_wp2_with (first
    | (go_at_call 19; refine (hc _).mono ?_; rintro e w1 ⟨rfl, hb1⟩)
    | (go_at_call 22; refine (hp _).mono ?_; rintro e w2 ⟨rfl, hb2⟩; have hz := hb1.size; have hw2 : Below w.heap.size w w2 := (hb1.alloc hz _).trans (hb2.mono (by simp; omega))))
  go_ret
  exact ⟨rfl, hw2⟩
theorem kn_p1 (w : World) : Calls Try.prog 10 #[.agg #[.string ⟨#[]⟩, .int .i64 0, .int .i64 0], .int .i64 32, .int .u64 4294967295] w fun e w' => e = .returned (.tuple #[.agg #[.string ⟨#[255, 255, 255, 255]⟩, .int .i64 0, .int .i64 0], .int .i64 0]) ∧ Below w.heap.size w w' := Put_at w (by decide) (by decide) (by decide +kernel)
theorem kn_p2 (w : World) : Calls Try.prog 10 #[.agg #[.string ⟨#[]⟩, .int .i64 0, .int .i64 0], .int .i64 33, .int .u64 0] w fun e w' => e = .returned (.tuple #[.agg #[.string ⟨#[]⟩, .int .i64 0, .int .i64 0], .int .i64 2]) ∧ Below w.heap.size w w' := Put_at w (by decide) (by decide) (by decide +kernel)
theorem kn_p3 (w : World) : Calls Try.prog 10 #[.agg #[.string ⟨#[]⟩, .int .i64 0, .int .i64 0], .int .i64 2, .int .u64 4] w fun e w' => e = .returned (.tuple #[.agg #[.string ⟨#[]⟩, .int .i64 0, .int .i64 0], .int .i64 2]) ∧ Below w.heap.size w w' := Put_at w (by decide) (by decide) (by decide +kernel)
theorem kn_p4 (w : World) : Calls Try.prog 10 #[.agg #[.string ⟨#[]⟩, .int .i64 0, .int .i64 0], .int .i64 (-1), .int .u64 0] w fun e w' => e = .returned (.tuple #[.agg #[.string ⟨#[]⟩, .int .i64 0, .int .i64 0], .int .i64 2]) ∧ Below w.heap.size w w' := Put_at w (by decide) (by decide) (by decide +kernel)
theorem kn_e1 (w : World) : Calls Try.prog 23 #[.agg #[.string ⟨#[]⟩, .int .i64 0, .int .i64 0], .string ⟨#[1]⟩] w fun e w' => e = .returned (.bool true) ∧ Below w.heap.size w w' := ends_ok _ _ _ _ w (by decide) (by decide +kernel) (by decide +kernel)
theorem kn_l1 (w : World) : Calls Try.prog 24 #[.agg #[.string ⟨#[]⟩, .int .i64 0, .int .i64 0], .int .i64 8, .int .u64 255] w fun e w' => e = .returned (.agg #[.string ⟨#[255]⟩, .int .i64 0, .int .i64 0]) ∧ Below w.heap.size w w' := lput_at w (by decide) (by decide) (by decide +kernel)
theorem kn_e2 (w : World) : Calls Try.prog 23 #[.agg #[.string ⟨#[255]⟩, .int .i64 0, .int .i64 0], .string ⟨#[255, 1]⟩] w fun e w' => e = .returned (.bool true) ∧ Below w.heap.size w w' := ends_ok _ _ _ _ w (by decide) (by decide +kernel) (by decide +kernel)
theorem kn_b1 (w : World) : Calls Try.prog 25 #[.string ⟨#[1]⟩, .int .i64 0, .int .i64 0] w fun e w' => e = .returned (.bool true) ∧ Below w.heap.size w w' := lbits_at w (by decide) (by decide +kernel)
theorem kn_b2 (w : World) : Calls Try.prog 25 #[.string ⟨#[255, 1]⟩, .int .i64 8, .int .i64 0] w fun e w' => e = .returned (.bool true) ∧ Below w.heap.size w w' := lbits_at w (by decide) (by decide +kernel)
theorem kn_b3 (w : World) : Calls Try.prog 25 #[.string ⟨#[0]⟩, .int .i64 0, .int .i64 22] w fun e w' => e = .returned (.bool true) ∧ Below w.heap.size w w' := lbits_at w (by decide) (by decide +kernel)
theorem kn_b4 (w : World) : Calls Try.prog 25 #[.string ⟨#[]⟩, .int .i64 0, .int .i64 22] w fun e w' => e = .returned (.bool true) ∧ Below w.heap.size w w' := lbits_at w (by decide) (by decide +kernel)
theorem kn_b5 (w : World) : Calls Try.prog 25 #[.string ⟨#[1, 0]⟩, .int .i64 0, .int .i64 22] w fun e w' => e = .returned (.bool true) ∧ Below w.heap.size w w' := lbits_at w (by decide) (by decide +kernel)
theorem kn_r1 (w : World) : Calls Try.prog 19 #[.string ⟨#[17, 6]⟩] w fun e w' => e = .returned (.tuple #[.agg #[.string ⟨#[17, 6]⟩, .int .i64 10], .int .i64 0]) ∧ Below w.heap.size w w' := Read_at w (by decide) (by decide +kernel)
theorem kn_t1 (w : World) : Calls Try.prog 21 #[.agg #[.string ⟨#[17, 6]⟩, .int .i64 10], .int .i64 6] w fun e w' => e = .returned (.tuple #[.agg #[.string ⟨#[17, 6]⟩, .int .i64 4], .int .u64 33, .int .i64 0]) ∧ Below w.heap.size w w' := Take_at w (by decide) (by decide +kernel)
theorem kn_t2 (w : World) : Calls Try.prog 21 #[.agg #[.string ⟨#[17, 6]⟩, .int .i64 4], .int .i64 4] w fun e w' => e = .returned (.tuple #[.agg #[.string ⟨#[17, 6]⟩, .int .i64 0], .int .u64 1, .int .i64 0]) ∧ Below w.heap.size w w' := Take_at w (by decide) (by decide +kernel)
theorem kn_t3 (w : World) : Calls Try.prog 21 #[.agg #[.string ⟨#[17, 6]⟩, .int .i64 0], .int .i64 1] w fun e w' => e = .returned (.tuple #[.agg #[.string ⟨#[]⟩, .int .i64 0], .int .u64 0, .int .i64 5]) ∧ Below w.heap.size w w' := Take_at w (by decide) (by decide +kernel)
theorem kn_k1 (w : World) : Calls Try.prog 26 #[.string ⟨#[13]⟩, .int .i64 3, .int .u64 5] w fun e w' => e = .returned (.bool true) ∧ Below w.heap.size w w' := peeks_at (L := 3) w (by decide) (by decide +kernel)
theorem kn_k2 (w : World) : Calls Try.prog 26 #[.string ⟨#[13]⟩, .int .i64 2, .int .u64 2] w fun e w' => e = .returned (.bool true) ∧ Below w.heap.size w w' := peeks_at (L := 3) w (by decide) (by decide +kernel)
theorem kn_k3 (w : World) : Calls Try.prog 26 #[.string ⟨#[13]⟩, .int .i64 5, .int .u64 20] w fun e w' => e = .returned (.bool true) ∧ Below w.heap.size w w' := peeks_at (L := 3) w (by decide) (by decide +kernel)
theorem kn_k4 (w : World) : Calls Try.prog 26 #[.string ⟨#[1]⟩, .int .i64 4, .int .u64 0] w fun e w' => e = .returned (.bool true) ∧ Below w.heap.size w w' := peeks_at (L := 0) w (by decide) (by decide +kernel)
theorem kn_r2 (w : World) : Calls Try.prog 19 #[.string ⟨#[13]⟩] w fun e w' => e = .returned (.tuple #[.agg #[.string ⟨#[13]⟩, .int .i64 3], .int .i64 0]) ∧ Below w.heap.size w w' := Read_at w (by decide) (by decide +kernel)
theorem kn_s1 (w : World) : Calls Try.prog 27 #[.agg #[.string ⟨#[13]⟩, .int .i64 3], .int .i64 2] w fun e w' => e = .returned (.tuple #[.agg #[.string ⟨#[13]⟩, .int .i64 1], .int .i64 0]) ∧ Below w.heap.size w w' := Skip_at w (by decide) (by decide +kernel)
theorem kn_s2 (w : World) : Calls Try.prog 27 #[.agg #[.string ⟨#[13]⟩, .int .i64 3], .int .i64 4] w fun e w' => e = .returned (.tuple #[.agg #[.string ⟨#[]⟩, .int .i64 0], .int .i64 5]) ∧ Below w.heap.size w w' := Skip_at w (by decide) (by decide +kernel)
theorem kn_right (w : World) : Calls Try.prog 28 #[.agg #[.string ⟨#[13]⟩, .int .i64 4]] w fun e w' => e = .returned (.int .i64 10) ∧ Below w.heap.size w w' := by
  have h := Right_any ⟨#[13]⟩ 4 w (by decide)
  rw [show rightE ⟨#[13]⟩ 4 = 10 by decide +kernel] at h; exact h
theorem kn_check (w : World) : Calls Try.prog 12 #[.agg #[.string ⟨#[]⟩, .int .i64 0, .int .i64 8]] w fun e w' => e = .returned (.int .i64 10) ∧ Below w.heap.size w w' := by
  have h := check_any ⟨#[]⟩ 0 8 w (by decide)
  rw [show chk (ByteArray.size ⟨#[]⟩) 0 8 = 10 by decide +kernel] at h; exact h

set_option maxRecDepth 100000 in
set_option maxHeartbeats 3200000 in
theorem law7 (w : World) : Calls Try.prog 7 #[] w fun e w' => e = .returned (.bool true) ∧ Below w.heap.size w w' := by
  go_enter Try.func7, Try.ntmps7
  go_wp2_with (first
    | (go_at_call 10; (first | (with_reducible refine (kn_p1 _).mono ?_; rintro e w1 ⟨rfl, hb⟩; have hA := (Blk.new w 23 [.string ⟨#[]⟩, .int .i64 0, .int .i64 0]).belowS hb; have hw : Below w.heap.size w w1 := Below.trans (by go_grown) (hb.mono (by simp)); have a0 := hA.cell 0 rfl; have a1 := hA.cell 1 rfl; have a2 := hA.cell 2 rfl; have al := hA.lt; clear hb) | (with_reducible refine (kn_p2 _).mono ?_; rintro e w1 ⟨rfl, hb⟩; have hA := (hA.alloc _).belowS hb; have hz := hw.size; have hw := (hw.alloc hz _).trans (hb.mono (by simp; omega)); have a0 := hA.cell 0 rfl; have a1 := hA.cell 1 rfl; have a2 := hA.cell 2 rfl; have al := hA.lt; clear hb) | (with_reducible refine (kn_p3 _).mono ?_; rintro e w1 ⟨rfl, hb⟩; have hA := (hA.alloc _).belowS hb; have hz := hw.size; have hw := (hw.alloc hz _).trans (hb.mono (by simp; omega)); have a0 := hA.cell 0 rfl; have a1 := hA.cell 1 rfl; have a2 := hA.cell 2 rfl; have al := hA.lt; clear hb) | (with_reducible refine (kn_p4 _).mono ?_; rintro e w1 ⟨rfl, hb⟩; have hA := (hA.alloc _).belowS hb; have hz := hw.size; have hw := (hw.alloc hz _).trans (hb.mono (by simp; omega)); have a0 := hA.cell 0 rfl; have a1 := hA.cell 1 rfl; have a2 := hA.cell 2 rfl; have al := hA.lt; clear hb))) 
    | (go_at_call 23; (first | (with_reducible refine (kn_e1 _).mono ?_; rintro e w1 ⟨rfl, hb⟩; have hA := (hA.alloc _).belowS hb; have hz := hw.size; have hw := (hw.alloc hz _).trans (hb.mono (by simp; omega)); have a0 := hA.cell 0 rfl; have a1 := hA.cell 1 rfl; have a2 := hA.cell 2 rfl; have al := hA.lt; clear hb) | (with_reducible refine (kn_e2 _).mono ?_; rintro e w1 ⟨rfl, hb⟩; have hw := hw.trans (hb.mono hw.size); clear hb))) 
    | (go_at_call 24; (first | (with_reducible refine (kn_l1 _).mono ?_; rintro e w1 ⟨rfl, hb⟩; have hA := hA.belowS hb; have hw := hw.trans (hb.mono hw.size); have a0 := hA.cell 0 rfl; have a1 := hA.cell 1 rfl; have a2 := hA.cell 2 rfl; have al := hA.lt; clear hb))) 
    | (go_at_call 25; (first | (with_reducible refine (kn_b1 _).mono ?_; rintro e w1 ⟨rfl, hb⟩; have hw := hw.trans (hb.mono hw.size); clear hb) | (with_reducible refine (kn_b2 _).mono ?_; rintro e w1 ⟨rfl, hb⟩; have hw := hw.trans (hb.mono hw.size); clear hb) | (with_reducible refine (kn_b3 _).mono ?_; rintro e w1 ⟨rfl, hb⟩; have hw := hw.trans (hb.mono hw.size); clear hb) | (with_reducible refine (kn_b4 _).mono ?_; rintro e w1 ⟨rfl, hb⟩; have hw := hw.trans (hb.mono hw.size); clear hb) | (with_reducible refine (kn_b5 _).mono ?_; rintro e w1 ⟨rfl, hb⟩; have hw := hw.trans (hb.mono hw.size); clear hb))) 
    | (go_at_call 19; (first | (with_reducible refine (kn_r1 _).mono ?_; rintro e w1 ⟨rfl, hb⟩; have hw := hw.trans (hb.mono hw.size); have hq := hw.size; have hnew := Blk.new w1 39 [.string ⟨#[17, 6]⟩, .int .i64 10]; clear hb) | (with_reducible refine (kn_r2 _).mono ?_; rintro e w1 ⟨rfl, hb⟩; have hR := hR.belowS hb; have hw := hw.trans (hb.mono hw.size); have r0 := hR.cell 0 rfl; have r1 := hR.cell 1 rfl; have rf0 := hR.frozen 0; have rf1 := hR.frozen 1; have rl := hR.lt; clear hb))) 
    | (go_at_call 21; (first | (with_reducible refine (kn_t1 _).mono ?_; rintro e w1 ⟨rfl, hb⟩; have hR := hnew.belowS hb; have hz := hw.size; have hw := (hw.alloc hz _).trans (hb.mono (by simp; omega)); have r0 := hR.cell 0 rfl; have r1 := hR.cell 1 rfl; have rf0 := hR.frozen 0; have rf1 := hR.frozen 1; have rl := hR.lt; clear hb) | (with_reducible refine (kn_t2 _).mono ?_; rintro e w1 ⟨rfl, hb⟩; have hR := ((hR.set 0 _).set 1 _).belowS hb; have hz := hw.size; have hw := ((hw.setCell hq _).setCell hq _).trans (hb.mono (by simp; omega)); have r0 := hR.cell 0 rfl; have r1 := hR.cell 1 rfl; have rf0 := hR.frozen 0; have rf1 := hR.frozen 1; have rl := hR.lt; clear hb) | (with_reducible refine (kn_t3 _).mono ?_; rintro e w1 ⟨rfl, hb⟩; have hR := ((hR.set 0 _).set 1 _).belowS hb; have hz := hw.size; have hw := ((hw.setCell hq _).setCell hq _).trans (hb.mono (by simp; omega)); have r0 := hR.cell 0 rfl; have r1 := hR.cell 1 rfl; have rf0 := hR.frozen 0; have rf1 := hR.frozen 1; have rl := hR.lt; clear hb))) 
    | (go_at_call 26; (first | (with_reducible refine (kn_k1 _).mono ?_; rintro e w1 ⟨rfl, hb⟩; have hR := hR.belowS hb; have hw := hw.trans (hb.mono hw.size); have r0 := hR.cell 0 rfl; have r1 := hR.cell 1 rfl; have rf0 := hR.frozen 0; have rf1 := hR.frozen 1; have rl := hR.lt; clear hb) | (with_reducible refine (kn_k2 _).mono ?_; rintro e w1 ⟨rfl, hb⟩; have hR := hR.belowS hb; have hw := hw.trans (hb.mono hw.size); have r0 := hR.cell 0 rfl; have r1 := hR.cell 1 rfl; have rf0 := hR.frozen 0; have rf1 := hR.frozen 1; have rl := hR.lt; clear hb) | (with_reducible refine (kn_k3 _).mono ?_; rintro e w1 ⟨rfl, hb⟩; have hR := hR.belowS hb; have hw := hw.trans (hb.mono hw.size); have r0 := hR.cell 0 rfl; have r1 := hR.cell 1 rfl; have rf0 := hR.frozen 0; have rf1 := hR.frozen 1; have rl := hR.lt; clear hb) | (with_reducible refine (kn_k4 _).mono ?_; rintro e w1 ⟨rfl, hb⟩; have hR := hR.belowS hb; have hw := hw.trans (hb.mono hw.size); have r0 := hR.cell 0 rfl; have r1 := hR.cell 1 rfl; have rf0 := hR.frozen 0; have rf1 := hR.frozen 1; have rl := hR.lt; clear hb))) 
    | (go_at_call 27; (first | (with_reducible refine (kn_s1 _).mono ?_; rintro e w1 ⟨rfl, hb⟩; have hR := ((hR.set 0 _).set 1 _).belowS hb; have hz := hw.size; have hw := ((hw.setCell hq _).setCell hq _).trans (hb.mono (by simp; omega)); have r0 := hR.cell 0 rfl; have r1 := hR.cell 1 rfl; have rf0 := hR.frozen 0; have rf1 := hR.frozen 1; have rl := hR.lt; have hN := Blk.new w1 39 [.string ⟨#[13]⟩, .int .i64 1]; clear hb) | (with_reducible refine (kn_s2 _).mono ?_; rintro e w1 ⟨rfl, hb⟩; have hR := (hR.alloc _).belowS hb; have hN := hN.belowS hb; have hz := hw.size; have hw := (hw.alloc hz _).trans (hb.mono (by simp; omega)); have r0 := hR.cell 0 rfl; have r1 := hR.cell 1 rfl; have rf0 := hR.frozen 0; have rf1 := hR.frozen 1; have rl := hR.lt; have n1 := hN.cell 1 rfl; have nl := hN.lt; clear hb))) 
    | (go_at_call 28; (first | (with_reducible refine (kn_right _).mono ?_; rintro e w1 ⟨rfl, hb⟩; have hw := hw.trans (hb.mono hw.size); clear hb))) 
    | (go_at_call 12; (first | (with_reducible refine (kn_check _).mono ?_; rintro e w1 ⟨rfl, hb⟩; have hw := hw.trans (hb.mono hw.size); clear hb))) 
    | (go_at_call 9; refine (awake_any _).mono ?_; rintro e w1 ⟨rfl, hb⟩; have hw := hw.trans (hb.mono hw.size)))
  go_ret
  exact ⟨rfl, hw⟩

end Go.Proofs.Ytlmoenjggggpkaa
namespace Go.Proofs.Ytlmoenjggggpkaa
open Go.RowKit Go.Chz
set_option linter.unusedVariables false

theorem tmod_emod (a : Int) (m : Int) (hm : 0 < m) : (if a.tmod m < 0 then a.tmod m + m else a.tmod m) = a % m := by
  have h1 := Int.emod_nonneg a (show m ≠ 0 by omega)
  have h2 := Int.emod_lt_of_pos a hm
  rw [Int.tmod_eq_emod]
  by_cases h : 0 ≤ a ∨ m ∣ a
  · rw [if_pos h]; simp; omega
  · rw [if_neg h]
    have : a % m ≠ 0 := fun h0 => h (.inr (Int.dvd_of_emod_eq_zero h0))
    rw [if_pos (by omega)]; omega

theorem Mod_any (a m : Int) (w : World) (hm : 0 < m) (hm2 : m ≤ 1099511627776) (ha : (Lit.int .i64 a).wf = true) :
    Calls Try.prog 20 #[.int .i64 a, .int .i64 m] w fun e w' => e = .returned (.int .i64 (a % m)) ∧ w = w' := by
  have ha2 : -9223372036854775808 ≤ a ∧ a ≤ 9223372036854775807 := by
    simp only [Lit.wf, Bool.and_eq_true, decide_eq_true_eq] at ha; exact ha
  have hmd := tmod_emod a m hm
  have hb := Int.tmod_lt_of_pos a hm
  have hb2 := Int.lt_tmod_of_pos a hm
  obtain ⟨r, hr⟩ : ∃ r, r = a.tmod m := ⟨_, rfl⟩
  rw [← hr] at hmd hb hb2
  have hr' := hr.symm
  have h0 : decide (m < 1) = false := decide_eq_false (by omega)
  clear ha hr
  by_cases h : r < 0
  · rw [if_pos h] at hmd
    rw [← hmd]
    have h1 := decide_eq_true h
    go_enter Try.func20, Try.ntmps20
    go_wp2
    go_ret
    refine ⟨?_, rfl⟩
    go_simp
  · rw [if_neg h] at hmd
    rw [← hmd]
    have h1 := decide_eq_false h
    go_enter Try.func20, Try.ntmps20
    go_wp2
    go_ret
    exact ⟨rfl, rfl⟩

theorem pv_add (s : ByteArray) (L m : Nat) (hm : m ≤ L) : ∀ n, pv s L (m + n) = 2 ^ n * pv s L m + pv s (L - m) n
  | 0 => by simp [pv]
  | n + 1 => by
    rw [← Nat.add_assoc, pv, pv_add s L m hm n, pv, Nat.pow_succ]
    have e : (if m + n < L then bitAt s (L - 1 - (m + n)) else 0) = (if n < L - m then bitAt s (L - m - 1 - n) else 0) := by
      by_cases h : m + n < L
      · rw [if_pos h, if_pos (by omega), show L - 1 - (m + n) = L - m - 1 - n by omega]
      · rw [if_neg h, if_neg (by omega)]
    rw [e, Nat.mul_add, Nat.mul_comm (2 ^ n) 2, Nat.mul_assoc]; omega
theorem pv_over (s : ByteArray) (L : Nat) : ∀ d, pv s L (L + d) = 2 ^ d * pv s L L
  | 0 => by simp
  | d + 1 => by
    rw [← Nat.add_assoc, pv, pv_over s L d, if_neg (by omega), Nat.pow_succ, Nat.mul_comm (2 ^ d) 2, Nat.mul_assoc]; omega
end Go.Proofs.Ytlmoenjggggpkaa
namespace Go.Proofs.Ytlmoenjggggpkaa
open Go.RowKit Go.Chz
set_option linter.unusedVariables false

theorem law5_far (s : ByteArray) (a b : Int) (w : World) (hs : (s.size : Int) ≤ 9223372036854775807) (h : decide (20 < (s.size : Int)) = true) :
    Calls Try.prog 5 #[.string s, .int .i64 a, .int .i64 b] w fun e w' => e = .returned (.bool true) ∧ Below w.heap.size w w' := by
  go_enter Try.func5, Try.ntmps5
  go_wp2_with (first | (go_at_call 9; refine (awake_any _).mono ?_; rintro e w1 ⟨rfl, hb1⟩))
  go_ret
  exact ⟨rfl, hb1⟩

set_option maxRecDepth 100000 in
set_option maxHeartbeats 1600000 in
theorem law5_A (s S : ByteArray) (a b : Int) (w : World) (L m n : Nat) (h20 : decide (20 < (s.size : Int)) = false) (hsz : (s.size : Int) ≤ 20) (hS : s ++ ⟨#[128]⟩ = S) (hLs : ((L : Int) != 8 * (s.size : Int) + 7) = false) (hm : m ≤ 16) (hn : n ≤ 16) (hLb : L ≤ 200) (hmL : L < m)
    (cMa : ∀ w, Calls Try.prog 20 #[.int .i64 a, .int .i64 17] w fun e w' => e = .returned (.int .i64 m) ∧ w = w')
    (cMb : ∀ w, Calls Try.prog 20 #[.int .i64 b, .int .i64 17] w fun e w' => e = .returned (.int .i64 n) ∧ w = w')
    (c19 : ∀ w, Calls Try.prog 19 #[.string S] w fun e w' => e = .returned (.tuple #[.agg #[.string S, .int .i64 L], .int .i64 0]) ∧ Below w.heap.size w w')
    (ct1 : ∀ w, Calls Try.prog 21 #[.agg #[.string S, .int .i64 L], .int .i64 m] w fun e w' => e = .returned (.tuple #[.agg #[.string ⟨#[]⟩, .int .i64 0], .int .u64 0, .int .i64 5]) ∧ Below w.heap.size w w') :
    Calls Try.prog 5 #[.string s, .int .i64 a, .int .i64 b] w fun e w' => e = .returned (.bool true) ∧ Below w.heap.size w w' := by
  go_enter Try.func5, Try.ntmps5
  go_wp2_with (first
    | (go_at_call 20; (first | (with_reducible refine (cMa _).mono ?_; rintro e w1 ⟨rfl, rfl⟩) | (with_reducible refine (cMb _).mono ?_; rintro e w1 ⟨rfl, rfl⟩)))
    | (go_at_call 19; (first | (with_reducible refine (c19 _).mono ?_; rintro e w1 ⟨rfl, hb⟩; have hw : Below w.heap.size w w1 := hb; have hnew := Blk.new w1 39 [.string S, .int .i64 L]; clear hb)))
    | (go_at_call 21; (first | (with_reducible refine (ct1 _).mono ?_; rintro e w1 ⟨rfl, hb⟩; have hR := hnew.belowS hb; have hz := hw.size; have hw := (hw.alloc hz _).trans (hb.mono (by simp; omega)); have r0 := hR.cell 0 rfl; have r1 := hR.cell 1 rfl; have rl := hR.lt; have hx := Blk.new w1 39 [.string ⟨#[]⟩, .int .i64 0]; clear hb)))
    | (go_at_call 9; refine (awake_any _).mono ?_; rintro e w1 ⟨rfl, hb⟩; have hz := hw.size; have hw := (hw.alloc hz _).trans (hb.mono (by simp; omega))))
  go_ret
  exact ⟨rfl, hw⟩

set_option maxRecDepth 100000 in
set_option maxHeartbeats 1600000 in
theorem law5_B1 (s S : ByteArray) (a b : Int) (w : World) (L m n : Nat) (h20 : decide (20 < (s.size : Int)) = false) (hsz : (s.size : Int) ≤ 20) (hS : s ++ ⟨#[128]⟩ = S) (hLs : ((L : Int) != 8 * (s.size : Int) + 7) = false) (hm : m ≤ 16) (hn : n ≤ 16) (hLb : L ≤ 200) (U W D : Nat) (hmL : m ≤ L) (hD : (m : Int) + n - L = D) (hlt : (L : Int) < m + n) (hD1 : 0 < D) (hD2 : D ≤ 32) (Q : Nat) (hQ : IntKind.u64.wrap (2 ^ D) = (Q : Int)) (hQ0 : 0 < Q) (hWQ : (W : Int) % (Q : Int) = 0)
    (cMa : ∀ w, Calls Try.prog 20 #[.int .i64 a, .int .i64 17] w fun e w' => e = .returned (.int .i64 m) ∧ w = w')
    (cMb : ∀ w, Calls Try.prog 20 #[.int .i64 b, .int .i64 17] w fun e w' => e = .returned (.int .i64 n) ∧ w = w')
    (c19 : ∀ w, Calls Try.prog 19 #[.string S] w fun e w' => e = .returned (.tuple #[.agg #[.string S, .int .i64 L], .int .i64 0]) ∧ Below w.heap.size w w')
    (ct1 : ∀ w, Calls Try.prog 21 #[.agg #[.string S, .int .i64 L], .int .i64 m] w fun e w' => e = .returned (.tuple #[.agg #[.string S, .int .i64 ((L : Int) - m)], .int .u64 U, .int .i64 0]) ∧ Below w.heap.size w w')
    (ct2 : ∀ w, Calls Try.prog 21 #[.agg #[.string S, .int .i64 ((L : Int) - m)], .int .i64 n] w fun e w' => e = .returned (.tuple #[.agg #[.string ⟨#[]⟩, .int .i64 0], .int .u64 0, .int .i64 5]) ∧ Below w.heap.size w w')
    (ct3 : ∀ w, Calls Try.prog 21 #[.agg #[.string S, .int .i64 L], .int .i64 ((m : Int) + n)] w fun e w' => e = .returned (.tuple #[.agg #[.string ⟨#[]⟩, .int .i64 0], .int .u64 0, .int .i64 5]) ∧ Below w.heap.size w w')
    (cp : ∀ w, Calls Try.prog 22 #[.agg #[.string S, .int .i64 L], .int .i64 ((m : Int) + n)] w fun e w' => e = .returned (.tuple #[.int .u64 W, .int .i64 0]) ∧ Below w.heap.size w w') :
    Calls Try.prog 5 #[.string s, .int .i64 a, .int .i64 b] w fun e w' => e = .returned (.bool true) ∧ Below w.heap.size w w' := by
  go_enter Try.func5, Try.ntmps5
  go_wp2_with (first
    | (go_at_call 20; (first | (with_reducible refine (cMa _).mono ?_; rintro e w1 ⟨rfl, rfl⟩) | (with_reducible refine (cMb _).mono ?_; rintro e w1 ⟨rfl, rfl⟩)))
    | (go_at_call 19; (first | (with_reducible refine (c19 _).mono ?_; rintro e w1 ⟨rfl, hb⟩; have hw : Below w.heap.size w w1 := hb; have hnew := Blk.new w1 39 [.string S, .int .i64 L]; clear hb)))
    | (go_at_call 21; (first | (with_reducible refine (ct1 _).mono ?_; rintro e w1 ⟨rfl, hb⟩; have hR := hnew.belowS hb; have hz := hw.size; have hw := (hw.alloc hz _).trans (hb.mono (by simp; omega)); have r0 := hR.cell 0 rfl; have r1 := hR.cell 1 rfl; have rl := hR.lt; have hx := Blk.new w1 39 [.string S, .int .i64 ((L : Int) - m)]; clear hb) | (with_reducible refine (ct2 _).mono ?_; rintro e w1 ⟨rfl, hb⟩; have hX := hx.belowS hb; have hR := (hR.alloc (.cells #[.string S, .int .i64 ((L : Int) - m)] 39)).belowS hb; have hz := hw.size; have hw := (hw.alloc hz _).trans (hb.mono (by simp; omega)); have r0 := hR.cell 0 rfl; have r1 := hR.cell 1 rfl; have rl := hR.lt; have hy := Blk.new w1 39 [.string ⟨#[]⟩, .int .i64 0]; clear hb) | (with_reducible refine (ct3 _).mono ?_; rintro e w1 ⟨rfl, hb⟩; have hY := hy.belowS hb; have hR := (hR.alloc (.cells #[.string ⟨#[]⟩, .int .i64 0] 39)).belowS hb; have hz := hw.size; have hw := (hw.alloc hz _).trans (hb.mono (by simp; omega)); have r0 := hR.cell 0 rfl; have r1 := hR.cell 1 rfl; have rl := hR.lt; have hz9 := Blk.new w1 39 [.string ⟨#[]⟩, .int .i64 0]; clear hb)))
    | (go_at_call 22; (first | (with_reducible refine (cp _).mono ?_; rintro e w1 ⟨rfl, hb⟩; have hZ := hz9.belowS hb; have hY := (hY.alloc (.cells #[.string ⟨#[]⟩, .int .i64 0] 39)).belowS hb; have hR := (hR.alloc (.cells #[.string ⟨#[]⟩, .int .i64 0] 39)).belowS hb; have hz := hw.size; have hw := (hw.alloc hz _).trans (hb.mono (by simp; omega)); have r0 := hR.cell 0 rfl; have r1 := hR.cell 1 rfl; have rl := hR.lt; have y0 := hY.cell 0 rfl; have y1 := hY.cell 1 rfl; have yl := hY.lt; have z0 := hZ.cell 0 rfl; have z1 := hZ.cell 1 rfl; have zl := hZ.lt; clear hb)))
    | (go_at_call 9; refine (awake_any _).mono ?_; rintro e w1 ⟨rfl, hb⟩; have hw := hw.trans (hb.mono hw.size)))
  go_ret
  exact ⟨rfl, hw⟩

set_option maxRecDepth 100000 in
set_option maxHeartbeats 1600000 in
theorem law5_B2 (s S : ByteArray) (a b : Int) (w : World) (L m n : Nat) (h20 : decide (20 < (s.size : Int)) = false) (hsz : (s.size : Int) ≤ 20) (hS : s ++ ⟨#[128]⟩ = S) (hLs : ((L : Int) != 8 * (s.size : Int) + 7) = false) (hm : m ≤ 16) (hn : n ≤ 16) (hLb : L ≤ 200) (U V W : Nat) (hmL : m + n ≤ L) (G : Nat) (hG : IntKind.u64.wrap ((U : Int) * 2 ^ n) = (G : Int)) (hGb : G < 4294967296) (hV : V < 65536) (hW : (W : Int) = (G : Int) + V)
    (cMa : ∀ w, Calls Try.prog 20 #[.int .i64 a, .int .i64 17] w fun e w' => e = .returned (.int .i64 m) ∧ w = w')
    (cMb : ∀ w, Calls Try.prog 20 #[.int .i64 b, .int .i64 17] w fun e w' => e = .returned (.int .i64 n) ∧ w = w')
    (c19 : ∀ w, Calls Try.prog 19 #[.string S] w fun e w' => e = .returned (.tuple #[.agg #[.string S, .int .i64 L], .int .i64 0]) ∧ Below w.heap.size w w')
    (ct1 : ∀ w, Calls Try.prog 21 #[.agg #[.string S, .int .i64 L], .int .i64 m] w fun e w' => e = .returned (.tuple #[.agg #[.string S, .int .i64 ((L : Int) - m)], .int .u64 U, .int .i64 0]) ∧ Below w.heap.size w w')
    (ct2 : ∀ w, Calls Try.prog 21 #[.agg #[.string S, .int .i64 ((L : Int) - m)], .int .i64 n] w fun e w' => e = .returned (.tuple #[.agg #[.string S, .int .i64 ((L : Int) - m - n)], .int .u64 V, .int .i64 0]) ∧ Below w.heap.size w w')
    (ct3 : ∀ w, Calls Try.prog 21 #[.agg #[.string S, .int .i64 L], .int .i64 ((m : Int) + n)] w fun e w' => e = .returned (.tuple #[.agg #[.string S, .int .i64 ((L : Int) - (m + n))], .int .u64 W, .int .i64 0]) ∧ Below w.heap.size w w')
    (cp : ∀ w, Calls Try.prog 22 #[.agg #[.string S, .int .i64 L], .int .i64 ((m : Int) + n)] w fun e w' => e = .returned (.tuple #[.int .u64 W, .int .i64 0]) ∧ Below w.heap.size w w') :
    Calls Try.prog 5 #[.string s, .int .i64 a, .int .i64 b] w fun e w' => e = .returned (.bool true) ∧ Below w.heap.size w w' := by
  go_enter Try.func5, Try.ntmps5
  go_wp2_with (first
    | (go_at_call 20; (first | (with_reducible refine (cMa _).mono ?_; rintro e w1 ⟨rfl, rfl⟩) | (with_reducible refine (cMb _).mono ?_; rintro e w1 ⟨rfl, rfl⟩)))
    | (go_at_call 19; (first | (with_reducible refine (c19 _).mono ?_; rintro e w1 ⟨rfl, hb⟩; have hw : Below w.heap.size w w1 := hb; have hnew := Blk.new w1 39 [.string S, .int .i64 L]; clear hb)))
    | (go_at_call 21; (first | (with_reducible refine (ct1 _).mono ?_; rintro e w1 ⟨rfl, hb⟩; have hR := hnew.belowS hb; have hz := hw.size; have hw := (hw.alloc hz _).trans (hb.mono (by simp; omega)); have r0 := hR.cell 0 rfl; have r1 := hR.cell 1 rfl; have rl := hR.lt; have hx := Blk.new w1 39 [.string S, .int .i64 ((L : Int) - m)]; clear hb) | (with_reducible refine (ct2 _).mono ?_; rintro e w1 ⟨rfl, hb⟩; have hX := hx.belowS hb; have hR := (hR.alloc (.cells #[.string S, .int .i64 ((L : Int) - m)] 39)).belowS hb; have hz := hw.size; have hw := (hw.alloc hz _).trans (hb.mono (by simp; omega)); have r0 := hR.cell 0 rfl; have r1 := hR.cell 1 rfl; have rl := hR.lt; have hy := Blk.new w1 39 [.string S, .int .i64 ((L : Int) - m - n)]; clear hb) | (with_reducible refine (ct3 _).mono ?_; rintro e w1 ⟨rfl, hb⟩; have hY := hy.belowS hb; have hR := (hR.alloc (.cells #[.string S, .int .i64 ((L : Int) - m - n)] 39)).belowS hb; have hz := hw.size; have hw := (hw.alloc hz _).trans (hb.mono (by simp; omega)); have r0 := hR.cell 0 rfl; have r1 := hR.cell 1 rfl; have rl := hR.lt; have hz9 := Blk.new w1 39 [.string S, .int .i64 ((L : Int) - (m + n))]; clear hb)))
    | (go_at_call 22; (first | (with_reducible refine (cp _).mono ?_; rintro e w1 ⟨rfl, hb⟩; have hZ := hz9.belowS hb; have hY := (hY.alloc (.cells #[.string S, .int .i64 ((L : Int) - (m + n))] 39)).belowS hb; have hR := (hR.alloc (.cells #[.string S, .int .i64 ((L : Int) - (m + n))] 39)).belowS hb; have hz := hw.size; have hw := (hw.alloc hz _).trans (hb.mono (by simp; omega)); have r0 := hR.cell 0 rfl; have r1 := hR.cell 1 rfl; have rl := hR.lt; have y0 := hY.cell 0 rfl; have y1 := hY.cell 1 rfl; have yl := hY.lt; have z0 := hZ.cell 0 rfl; have z1 := hZ.cell 1 rfl; have zl := hZ.lt; clear hb)))
    | (go_at_call 9; refine (awake_any _).mono ?_; rintro e w1 ⟨rfl, hb⟩; have hw := hw.trans (hb.mono hw.size)))
  go_ret
  refine ⟨?_, hw⟩
  go_simp

end Go.Proofs.Ytlmoenjggggpkaa
namespace Go.Proofs.Ytlmoenjggggpkaa
open Go.RowKit Go.Chz
set_option linter.unusedVariables false

theorem S_size (s : ByteArray) (b : UInt8) : (s ++ (⟨#[b]⟩ : ByteArray)).size = s.size + 1 := by simp [ByteArray.size_append]; rfl
theorem S_last (s : ByteArray) (b : UInt8) (h : (s ++ (⟨#[b]⟩ : ByteArray)).size - 1 < (s ++ (⟨#[b]⟩ : ByteArray)).size) : (s ++ (⟨#[b]⟩ : ByteArray))[(s ++ (⟨#[b]⟩ : ByteArray)).size - 1] = b := by
  have e : (s ++ (⟨#[b]⟩ : ByteArray)).size - 1 = s.size := by rw [S_size]; rfl
  have h2 : s.size < (s ++ (⟨#[b]⟩ : ByteArray)).size := by rw [S_size]; omega
  have e3 : (s ++ (⟨#[b]⟩ : ByteArray))[(s ++ (⟨#[b]⟩ : ByteArray)).size - 1] = (s ++ (⟨#[b]⟩ : ByteArray))[s.size] := getElem_congr rfl e _
  rw [e3]
  rw [ByteArray.getElem_append_right (Nat.le_refl _)]
  simp; rfl
theorem sizeV_S (s : ByteArray) (b : UInt8) (hb : b.toNat ≠ 0) : sizeV (s ++ (⟨#[b]⟩ : ByteArray)) = 8 * (s.size : Int) + (Lib.bitLen b.toNat : Int) - 1 := by
  have h0 : 0 < (s ++ (⟨#[b]⟩ : ByteArray)).size := by rw [S_size]; omega
  have hl := S_last s b (by omega)
  obtain ⟨_, e⟩ := sizeV_pos (s ++ (⟨#[b]⟩ : ByteArray)) h0 (by rw [hl]; exact hb)
  rw [e, hl, S_size]
  omega
theorem bits_S (s : ByteArray) (b : UInt8) (hb : b.toNat ≠ 0) (hs : s.size < 1048576) : bitsE (s ++ (⟨#[b]⟩ : ByteArray)) = 0 ∧ bitsN (s ++ (⟨#[b]⟩ : ByteArray)) = 8 * (s.size : Int) + (Lib.bitLen b.toNat : Int) - 1 := by
  have hv := sizeV_S s b hb
  have hp := bitLen_pos ⟨b.toNat, b.toNat_lt⟩ hb
  simp only at hp
  have hE : bitsE (s ++ (⟨#[b]⟩ : ByteArray)) = 0 := by
    rw [bitsE_val, S_size, if_neg (by omega), if_neg (by omega)]
  exact ⟨hE, by rw [bitsN, if_pos hE, hv]⟩
theorem rightE_of {s : ByteArray} {left : Int} (hs : s.size ≤ 1048576) (h0 : 0 ≤ left) (h1 : left ≤ sizeV s) : rightE s left = 0 := by
  rw [rightE, if_neg (by omega)]
theorem askE_of {s : ByteArray} {left n : Int} (h : rightE s left = 0) (h0 : 0 ≤ n) (h1 : n ≤ 32) : askE s left n = 0 := by
  rw [askE, h, askB, decide_eq_false (by omega)]; rfl
theorem takeE_ok {s : ByteArray} {left n : Int} (h : askE s left n = 0) (h1 : n ≤ left) : takeE s left n = 0 := by
  rw [takeE, h, decide_eq_false (by omega)]; rfl
theorem takeE_short {s : ByteArray} {left n : Int} (h : askE s left n = 0) (h1 : left < n) : takeE s left n = 5 := by
  rw [takeE, h, decide_eq_true h1]; rfl
theorem Take_short {s : ByteArray} {left n : Int} (hs : s.size ≤ 1048577) (h : askE s left n = 0) (h1 : left < n) (w : World) :
    Calls Try.prog 21 #[.agg #[.string s, .int .i64 left], .int .i64 n] w fun e w' => e = .returned (.tuple #[.agg #[.string ⟨#[]⟩, .int .i64 0], .int .u64 0, .int .i64 5]) ∧ Below w.heap.size w w' := by
  have h2 := takeE_short h h1
  have hc := Take_any s left n w hs
  rw [tkS, tkL, tkV, h2, if_neg (by decide), if_neg (by decide), if_neg (by decide)] at hc
  exact hc
theorem Take_good {s : ByteArray} (L n : Nat) (hs : s.size ≤ 1048577) (h : askE s L n = 0) (h1 : n ≤ L) (w : World) :
    Calls Try.prog 21 #[.agg #[.string s, .int .i64 L], .int .i64 n] w fun e w' => e = .returned (.tuple #[.agg #[.string s, .int .i64 ((L : Int) - n)], .int .u64 (pv s L n), .int .i64 0]) ∧ Below w.heap.size w w' := by
  have h2 := takeE_ok h (show (n : Int) ≤ L by omega)
  have hc := Take_any s L n w hs
  rw [tkS, tkL, tkV, if_pos h2, if_pos h2, if_pos h2, h2, peekV, if_pos h] at hc
  exact hc

theorem law5_near (s : ByteArray) (a b : Int) (w : World) (hs : s.size ≤ 20) (wa : (Lit.int .i64 a).wf = true) (wb : (Lit.int .i64 b).wf = true) :
    Calls Try.prog 5 #[.string s, .int .i64 a, .int .i64 b] w fun e w' => e = .returned (.bool true) ∧ Below w.heap.size w w' := by
  have cMa := fun w => Mod_any a 17 w (by decide) (by decide) wa
  have cMb := fun w => Mod_any b 17 w (by decide) (by decide) wb
  obtain ⟨m, hm⟩ := Int.eq_ofNat_of_zero_le (Int.emod_nonneg a (show (17 : Int) ≠ 0 by decide))
  obtain ⟨n, hn⟩ := Int.eq_ofNat_of_zero_le (Int.emod_nonneg b (show (17 : Int) ≠ 0 by decide))
  have hm2 := Int.emod_lt_of_pos a (show (0 : Int) < 17 by decide)
  have hn2 := Int.emod_lt_of_pos b (show (0 : Int) < 17 by decide)
  rw [hm] at cMa hm2
  rw [hn] at cMb hn2
  obtain ⟨hE, hN⟩ := bits_S s 128 (by decide) (by omega)
  have hV := sizeV_S s 128 (by decide)
  have hsz := S_size s 128
  obtain ⟨S, hS⟩ : ∃ S, s ++ (⟨#[128]⟩ : ByteArray) = S := ⟨_, rfl⟩
  rw [hS] at hE hN hV hsz
  obtain ⟨L, hL⟩ : ∃ L : Nat, L = 8 * s.size + 7 := ⟨_, rfl⟩
  have eb : Lib.bitLen (UInt8.toNat 128) = 8 := by decide +kernel
  rw [eb] at hN hV
  have hNL : bitsN S = (L : Int) := by rw [hN, hL]; omega
  have hVL : sizeV S = (L : Int) := by rw [hV, hL]; omega
  have c19 := fun w => Read_at (s := S) (t := S) (a := L) (e0 := 0) w (by omega) ⟨hE, if_pos hE, hNL⟩
  have hr : ∀ x : Nat, x ≤ L → rightE S x = 0 := fun x hx => rightE_of (by omega) (by omega) (by omega)
  have hk : ∀ x y : Nat, x ≤ L → y ≤ 32 → askE S x y = 0 := fun x y hx hy => askE_of (hr x hx) (by omega) (by omega)
  have hSs : S.size ≤ 1048577 := by omega
  have h20 : decide (20 < (s.size : Int)) = false := decide_eq_false (by omega)
  have hLs : ((L : Int) != 8 * (s.size : Int) + 7) = false := by simp; omega
  have cp : ∀ w, Calls Try.prog 22 #[.agg #[.string S, .int .i64 L], .int .i64 ((m : Int) + n)] w fun e w' => e = .returned (.tuple #[.int .u64 (pv S L (m + n)), .int .i64 0]) ∧ Below w.heap.size w w' := by
    intro w
    have h := Peek_any S L ((m + n : Nat) : Int) w hSs
    rw [peekV, if_pos (hk L (m + n) (Nat.le_refl _) (by omega)), hk L (m + n) (Nat.le_refl _) (by omega)] at h
    exact h
  by_cases hmL : L < m
  · exact law5_A s S a b w L m n h20 (by omega) hS hLs (by omega) (by omega) (by omega) hmL cMa cMb c19 (Take_short hSs (hk L m (Nat.le_refl _) (by omega)) (by omega))
  · have ct1 := Take_good (s := S) L m hSs (hk L m (Nat.le_refl _) (by omega)) (by omega)
    have eL : (L : Int) - m = ((L - m : Nat) : Int) := by omega
    by_cases h2 : L < m + n
    · have hk2 := hk (L - m) n (by omega) (by omega)
      rw [← eL] at hk2
      have ct2 := Take_short hSs hk2 (by omega)
      have ct3 := Take_short hSs (hk L (m + n) (Nat.le_refl _) (by omega)) (by omega)
      have hpo := pv_over S L (m + n - L)
      rw [show L + (m + n - L) = m + n by omega] at hpo
      refine law5_B1 s S a b w L m n h20 (by omega) hS hLs (by omega) (by omega) (by omega) _ _ (m + n - L) (by omega) (by omega) (by omega) (by omega) (by omega) (2 ^ (m + n - L)) (u64pow _ (by omega)) (Nat.pow_pos (by omega)) ?_ cMa cMb c19 ct1 ct2 ct3 cp
      rw [hpo]; exact_mod_cast Nat.mul_mod_right _ _
    · have hk2 := hk (L - m) n (by omega) (by omega)
      have ct2 := Take_good (s := S) (L - m) n hSs hk2 (by omega)
      rw [← eL] at ct2
      have ct3 := Take_good (s := S) L (m + n) hSs (hk L (m + n) (Nat.le_refl _) (by omega)) (by omega)
      have hpa := pv_add S L m (by omega) n
      have hU := pv_lt S L m
      have hV1 := pv_lt S (L - m) n
      have q1 := pow_le_of (show m ≤ 16 by omega)
      have q2 := pow_le_of (show n ≤ 16 by omega)
      have hG : pv S L m * 2 ^ n < 4294967296 := by
        calc pv S L m * 2 ^ n ≤ 65535 * 65536 := Nat.mul_le_mul (by omega) (by omega)
          _ < 4294967296 := by decide
      refine law5_B2 s S a b w L m n h20 (by omega) hS hLs (by omega) (by omega) (by omega) _ _ _ (by omega) (pv S L m * 2 ^ n) ?_ hG (by omega) ?_ cMa cMb c19 ct1 ct2 ct3 cp
      · have e : ((pv S L m : Nat) : Int) * 2 ^ n = ((pv S L m * 2 ^ n : Nat) : Int) := by simp
        rw [e]; exact IntWalk.u64_in _ ⟨by omega, by omega⟩
      · rw [hpa, Nat.mul_comm (2 ^ n)]; simp
theorem law5 (s : ByteArray) (a b : Int) (w : World) (hs : s.size ≤ maxLen) (wa : (Lit.int .i64 a).wf = true) (wb : (Lit.int .i64 b).wf = true) :
    Calls Try.prog 5 #[.string s, .int .i64 a, .int .i64 b] w fun e w' => e = .returned (.bool true) ∧ Below w.heap.size w w' := by
  by_cases h : 20 < (s.size : Int)
  · exact law5_far s a b w (by unfold maxLen at hs; omega) (decide_eq_true h)
  · exact law5_near s a b w (by omega) wa wb
end Go.Proofs.Ytlmoenjggggpkaa
namespace Go.Proofs.Ytlmoenjggggpkaa
open Go.RowKit Go.Chz
set_option linter.unusedVariables false

/-- A string as a number, its first byte the least. -/
def numL : List UInt8 → Nat
  | [] => 0
  | b :: l => b.toNat + 256 * numL l
theorem numL_append : ∀ (a b : List UInt8), numL (a ++ b) = numL a + 256 ^ a.length * numL b
  | [], b => by simp [numL]
  | x :: a, b => by
    rw [List.cons_append, numL, numL, numL_append a b, List.length_cons, Nat.pow_succ, Nat.mul_comm (256 ^ a.length) 256, Nat.mul_add, Nat.mul_assoc]; omega
theorem numL_lt : ∀ l : List UInt8, numL l < 256 ^ l.length
  | [] => by simp [numL]
  | b :: l => by
    have h := numL_lt l
    have hb := b.toNat_lt
    rw [numL, List.length_cons, Nat.pow_succ]; omega
theorem numL_emit (T : Nat) : ∀ q, numL (emit T q) = T % 256 ^ q
  | 0 => by simp [emit, numL, Nat.mod_one]
  | q + 1 => by
    rw [emit_succ, numL_append, numL_emit T q, emit_length, numL, numL, Nat.pow_succ, Nat.mod_mul]
    simp
theorem numL_bit : ∀ (l : List UInt8) (i : Nat), numL l / 2 ^ i % 2 = (l.getD (i / 8) 0).toNat / 2 ^ (i % 8) % 2
  | [], i => by simp [numL]
  | b :: l, i => by
    have hb := b.toNat_lt
    by_cases h : i < 8
    · rw [show i / 8 = 0 by omega, show i % 8 = i by omega, numL]
      show _ = b.toNat / 2 ^ i % 2
      have e : 256 = 2 ^ i * (2 * 2 ^ (7 - i)) := by
        rw [← Nat.pow_succ', ← Nat.pow_add, show i + (7 - i + 1) = 8 by omega]
      rw [e, Nat.mul_assoc, Nat.add_mul_div_left _ _ (Nat.pow_pos (by omega)), Nat.mul_assoc, Nat.add_mul_mod_self_left]
    · have e : i / 8 = (i - 8) / 8 + 1 := by omega
      have e2 : i % 8 = (i - 8) % 8 := by omega
      rw [e, e2, List.getD_cons_succ, ← numL_bit l (i - 8), numL]
      have e3 : 2 ^ i = 256 * 2 ^ (i - 8) := by
        rw [show (256 : Nat) = 2 ^ 8 by rfl, ← Nat.pow_add, show 8 + (i - 8) = i by omega]
      rw [e3, ← Nat.div_div_eq_div_mul]
      congr 2
      omega
def num (s : ByteArray) : Nat := numL s.data.toList
theorem bitAt_num (s : ByteArray) (i : Nat) : bitAt s i = num s / 2 ^ i % 2 := by
  rw [num, numL_bit, bitAt]
  by_cases h : i / 8 < s.size
  · rw [dif_pos h]
    congr 2
    have : s.data.toList.getD (i / 8) 0 = s[i / 8] := by
      rw [List.getD_eq_getElem?_getD, List.getElem?_eq_getElem (by simpa using h)]; simp; rfl
    rw [this]
  · rw [dif_neg h]
    have : s.data.toList.getD (i / 8) 0 = 0 := by
      rw [List.getD_eq_getElem?_getD, List.getElem?_eq_none (by simpa using h)]; rfl
    rw [this]; simp
/-- The K bits below bit L are a slice of the number. -/
theorem pv_num (s : ByteArray) (L : Nat) : ∀ K, K ≤ L → pv s L K = num s / 2 ^ (L - K) % 2 ^ K
  | 0, _ => by simp [pv, Nat.mod_one]
  | K + 1, h => by
    rw [pv, pv_num s L K (by omega), if_pos (by omega), bitAt_num]
    have e : 2 ^ (L - K) = 2 ^ (L - (K + 1)) * 2 := by rw [← Nat.pow_succ]; congr 1; omega
    rw [e, show L - 1 - K = L - (K + 1) by omega, ← Nat.div_div_eq_div_mul]
    generalize num s / 2 ^ (L - (K + 1)) = x
    rw [Nat.pow_succ, Nat.mul_comm (2 ^ K) 2, Nat.mod_mul]; omega
end Go.Proofs.Ytlmoenjggggpkaa
namespace Go.Proofs.Ytlmoenjggggpkaa
open Go.RowKit Go.Chz
set_option linter.unusedVariables false

/-- What a writer holds, as a number; it has 8 |s| + N bits. -/
def held (s : ByteArray) (p : Nat) : Nat := num s + 256 ^ s.size * p
def putB (s : ByteArray) (T q : Nat) : ByteArray := ⟨(s.data.toList ++ emit T q).toArray⟩
theorem putB_size (s : ByteArray) (T q : Nat) : (putB s T q).size = s.size + q := by
  show (List.toArray _).size = _; simp [emit_length]
theorem num_lt (s : ByteArray) : num s < 2 ^ (8 * s.size) := by
  have h := numL_lt s.data.toList
  rw [← pow256]; simpa [num] using h
theorem held_put (s : ByteArray) (p N V q : Nat) : held (putB s (p + V * 2 ^ N) q) ((p + V * 2 ^ N) / 256 ^ q) = held s p + V * 2 ^ (8 * s.size + N) := by
  rw [held, putB_size, held]
  have e : num (putB s (p + V * 2 ^ N) q) = num s + 256 ^ s.size * ((p + V * 2 ^ N) % 256 ^ q) := by
    rw [num, putB]; show numL (s.data.toList ++ emit (p + V * 2 ^ N) q) = _; rw [numL_append, numL_emit]; simp [num]
  rw [e, Nat.pow_add, Nat.mul_assoc, Nat.add_assoc, ← Nat.mul_add, Nat.mod_add_div, Nat.mul_add, ← Nat.add_assoc]
  congr 1
  rw [Nat.pow_add, ← pow256, Nat.mul_comm, Nat.mul_assoc, Nat.mul_comm (2 ^ N)]
theorem held_lt (s : ByteArray) (p N : Nat) (h : p < 2 ^ N) : held s p < 2 ^ (8 * s.size + N) := by
  have h1 := num_lt s
  rw [held, Nat.pow_add, pow256]
  have h2 : 2 ^ (8 * s.size) * p + 2 ^ (8 * s.size) ≤ 2 ^ (8 * s.size) * 2 ^ N := by
    rw [← Nat.mul_succ]; exact Nat.mul_le_mul_left _ h
  omega
/-- The stream of a writer. -/
def doneB (s : ByteArray) (p N : Nat) : ByteArray := ⟨(s.data.toList ++ [UInt8.ofNat (p + 2 ^ N)]).toArray⟩
theorem doneB_size (s : ByteArray) (p N : Nat) : (doneB s p N).size = s.size + 1 := by
  show (List.toArray _).size = _; simp
theorem end_lt (p N : Nat) (h : p < 2 ^ N) (hN : N ≤ 7) : p + 2 ^ N < 256 := by
  have := pow_le_of (show N ≤ 7 by omega); omega
theorem num_done (s : ByteArray) (p N : Nat) (h : p < 2 ^ N) (hN : N ≤ 7) : num (doneB s p N) = held s p + 2 ^ (8 * s.size + N) := by
  have hl := end_lt p N h hN
  show numL (s.data.toList ++ [UInt8.ofNat (p + 2 ^ N)]) = _
  rw [numL_append, numL, numL, held, num]
  have e : (UInt8.ofNat (p + 2 ^ N)).toNat = p + 2 ^ N := by simp; omega
  rw [e, Nat.pow_add, ← pow256]
  simp; rw [Nat.mul_add]; omega
theorem bitLen_end : ∀ N : Fin 8, ∀ p : Fin 128, p.val < 2 ^ N.val → Lib.bitLen (p.val + 2 ^ N.val) = N.val + 1 := by decide +kernel
theorem doneB_app (s : ByteArray) (p N : Nat) : doneB s p N = s ++ (⟨#[UInt8.ofNat (p + 2 ^ N)]⟩ : ByteArray) := by
  have h := str_ext s s [] (UInt8.ofNat (p + 2 ^ N)) (by simp)
  rw [h]; rfl
theorem bits_done (s : ByteArray) (p N : Nat) (h : p < 2 ^ N) (hN : N ≤ 7) (hs : s.size < 1048576) : bitsE (doneB s p N) = 0 ∧ bitsN (doneB s p N) = ((8 * s.size + N : Nat) : Int) := by
  have hl := end_lt p N h hN
  have e : (UInt8.ofNat (p + 2 ^ N)).toNat = p + 2 ^ N := by simp; omega
  have hp2 := pow_le_of (show N ≤ 7 by omega)
  have hpos : 0 < 2 ^ N := Nat.pow_pos (by omega)
  have hb := bits_S s (UInt8.ofNat (p + 2 ^ N)) (by rw [e]; omega) hs
  rw [← doneB_app, e, bitLen_end ⟨N, by omega⟩ ⟨p, by omega⟩ h] at hb
  exact ⟨hb.1, by rw [hb.2]; simp only; omega⟩
end Go.Proofs.Ytlmoenjggggpkaa
namespace Go.Proofs.Ytlmoenjggggpkaa
open Go.RowKit Go.Chz
set_option linter.unusedVariables false

theorem chk_nat {len p N : Nat} (h : p < 2 ^ N) (hN : N ≤ 7) (hl : len ≤ 1048576) : chk len p N = 0 := by
  unfold chk
  have e : (2 : Int) ^ (N : Int).toNat = ((2 ^ N : Nat) : Int) := by simp
  rw [if_neg]; rw [e]; omega
theorem putE_nat {len p N K V : Nat} (h : p < 2 ^ N) (hN : N ≤ 7) (hK : K ≤ 32) (hV : V < 2 ^ K) (hl : len + (N + K) / 8 ≤ 1048576) : putE len p N K V = 0 := by
  have ep : ∀ m : Nat, (2 : Int) ^ m = ((2 ^ m : Nat) : Int) := by intro m; simp
  have e0 : (V : Int) / 2 ^ K = 0 := by
    rw [ep]; exact_mod_cast Nat.div_eq_of_lt hV
  have er : rngB K V = false := by
    rw [rngB, Int.toNat_natCast]; apply decide_eq_false; omega
  have el : lngB len N K = false := by
    unfold lngB
    rw [IntWalk.wrap64_in ((N : Int) + K) ⟨by omega, by omega⟩, Int.tdiv_eq_ediv_of_nonneg (show (0 : Int) ≤ (N : Int) + K by omega), IntWalk.wrap64_in (((N : Int) + K) / 8) ⟨by omega, by omega⟩, IntWalk.wrap64_in _ ⟨by omega, by omega⟩]
    apply decide_eq_false; omega
  rw [putE, chk_nat h hN (by omega), er, el]; rfl
theorem Put_w (s : ByteArray) (p N K V : Nat) (h : p < 2 ^ N) (hN : N ≤ 7) (hK : K ≤ 32) (hV : V < 2 ^ K) (hl : s.size + (N + K) / 8 ≤ 1048576) (w : World) :
    Calls Try.prog 10 #[.agg #[.string s, .int .i64 p, .int .i64 N], .int .i64 K, .int .u64 V] w fun e w' => e = .returned (.tuple #[.agg #[.string (putB s (p + V * 2 ^ N) ((N + K) / 8)), .int .i64 (((p + V * 2 ^ N) / 256 ^ ((N + K) / 8) : Nat) : Int), .int .i64 (((N + K) % 8 : Nat) : Int)], .int .i64 0]) ∧ Below w.heap.size w w' := by
  have hh := Put_ok s p N K V w (by omega) (by omega) (putE_nat h hN hK hV hl)
  exact hh
theorem Done_w (s : ByteArray) (p N : Nat) (h : p < 2 ^ N) (hN : N ≤ 7) (hl : s.size < 1048576) (w : World) :
    Calls Try.prog 14 #[.agg #[.string s, .int .i64 p, .int .i64 N]] w fun e w' => e = .returned (.tuple #[.string (doneB s p N), .int .i64 0]) ∧ Below w.heap.size w w' := by
  have e : doneE s.size p N = 0 := by
    rw [doneE, chk_nat h hN (by omega), decide_eq_false (by omega)]; rfl
  have hh := Done_ok s p N w (by omega) e
  exact hh
theorem Read_w (s : ByteArray) (L : Nat) (hl : s.size ≤ 1048576) (hE : bitsE s = 0) (hN : bitsN s = (L : Int)) (w : World) :
    Calls Try.prog 19 #[.string s] w fun e w' => e = .returned (.tuple #[.agg #[.string s, .int .i64 L], .int .i64 0]) ∧ Below w.heap.size w w' :=
  Read_at w (by omega) ⟨hE, if_pos hE, hN⟩
/-- Reading is right where the stream has at least L bits. -/
theorem Take_w (s : ByteArray) (B L K : Nat) (hl : s.size ≤ 1048576) (hE : bitsE s = 0) (hN : bitsN s = (B : Int)) (hL : L ≤ B) (hK : K ≤ L) (h32 : K ≤ 32) (w : World) :
    Calls Try.prog 21 #[.agg #[.string s, .int .i64 L], .int .i64 K] w fun e w' => e = .returned (.tuple #[.agg #[.string s, .int .i64 ((L - K : Nat) : Int)], .int .u64 ((num s / 2 ^ (L - K) % 2 ^ K : Nat) : Int), .int .i64 0]) ∧ Below w.heap.size w w' := by
  have e : sizeV s = (B : Int) := by rw [← hN]; exact (if_pos hE).symm
  have hk : askE s L K = 0 := askE_of (rightE_of hl (by omega) (by omega)) (by omega) (by omega)
  have hh := Take_good (s := s) L K (by omega) hk hK w
  rw [pv_num s L K hK, ← Int.ofNat_sub hK] at hh
  exact hh
/-- The new writer is right. -/
theorem put_lt (p N K V : Nat) (h : p < 2 ^ N) (hV : V < 2 ^ K) : (p + V * 2 ^ N) / 256 ^ ((N + K) / 8) < 2 ^ ((N + K) % 8) := by
  refine Nat.div_lt_of_lt_mul ?_
  rw [pow256, ← Nat.pow_add, Nat.div_add_mod]
  have h1 : V * 2 ^ N + 2 ^ N ≤ 2 ^ K * 2 ^ N := by rw [← Nat.succ_mul]; exact Nat.mul_le_mul_right _ hV
  rw [Nat.add_comm N K, Nat.pow_add]; omega
end Go.Proofs.Ytlmoenjggggpkaa
namespace Go.Proofs.Ytlmoenjggggpkaa
open Go.RowKit Go.Chz
set_option linter.unusedVariables false

theorem width_any (k : Int) (w : World) (hk : (Lit.int .i64 k).wf = true) :
    Calls Try.prog 16 #[.int .i64 k] w fun e w' => e = .returned (.int .i64 (k % 33)) ∧ w = w' := by
  go_enter Try.func16, Try.ntmps16
  go_wp2_with (first | (go_at_call 20; refine (Mod_any k 33 _ (by decide) (by decide) hk).mono ?_; rintro e w1 ⟨rfl, rfl⟩))
  go_ret
  exact ⟨rfl, rfl⟩
def valN (k : Int) (K : Nat) : Nat := (k % 1099511627776).toNat % 2 ^ K
theorem valN_lt (k : Int) (K : Nat) : valN k K < 2 ^ K := Nat.mod_lt _ (Nat.pow_pos (by omega))
theorem value_any (k : Int) (K : Nat) (w : World) (hk : (Lit.int .i64 k).wf = true) (hK : K ≤ 32) :
    Calls Try.prog 17 #[.int .i64 k, .int .i64 K] w fun e w' => e = .returned (.int .u64 (valN k K)) ∧ w = w' := by
  have h0 := Int.emod_nonneg k (show (1099511627776 : Int) ≠ 0 by decide)
  have h1 := Int.emod_lt_of_pos k (show (0 : Int) < 1099511627776 by decide)
  have hm := fun w => Mod_any k 1099511627776 w (by decide) (by decide) hk
  obtain ⟨x, hx⟩ := Int.eq_ofNat_of_zero_le h0
  rw [hx] at hm h1
  have hq := u64pow K hK
  obtain ⟨Q, hQ⟩ : ∃ Q, Q = 2 ^ K := ⟨_, rfl⟩
  rw [← hQ] at hq
  have hQ0 : 0 < Q := by rw [hQ]; exact Nat.pow_pos (by omega)
  have e : valN k K = x % Q := by rw [valN, hx, hQ]; rfl
  rw [e]
  clear e hx hQ h0
  go_enter Try.func17, Try.ntmps17
  go_wp2_with (first | (go_at_call 20; refine (hm _).mono ?_; rintro e w1 ⟨rfl, rfl⟩))
  go_ret
  refine ⟨?_, rfl⟩
  go_simp
end Go.Proofs.Ytlmoenjggggpkaa
