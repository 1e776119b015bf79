import Derived.Test.YtlmoenjggggpkaaT12
namespace Go.Proofs.Ytlmoenjggggpkaa
open Go.RowKit Go.Chz
set_option linter.unusedVariables false

set_option maxRecDepth 100000 in
set_option maxHeartbeats 800000 in
theorem law3_lo (s : ByteArray) (p n k v : Int) (w : World) (hs : (s.size : Int) ≤ 9223372036854775807) (h40 : decide (40 < (s.size : Int)) = true) (h : decide ((s.size : Int) < 1048575) = true) :
    Calls Try.prog 3 #[.agg #[.string s, .int .i64 p, .int .i64 n], .int .i64 k, .int .u64 v] w fun e w' => e = .returned (.bool true) ∧ Below w.heap.size w w' := by
  go_enter Try.func3, Try.ntmps3
  go_wp2_with (first | (go_at_call 9; refine (awake_any _).mono ?_; rintro e w1 ⟨rfl, hb1⟩; have hw1 : Below w.heap.size w w1 := Below.trans (by go_grown) (hb1.mono (by simp))))
  go_ret
  exact ⟨rfl, hw1⟩

set_option maxRecDepth 100000 in
set_option maxHeartbeats 800000 in
theorem law3_hi (s : ByteArray) (p n k v : Int) (w : World) (hs : (s.size : Int) ≤ 9223372036854775807) (h40 : decide (40 < (s.size : Int)) = true) (h : decide ((s.size : Int) < 1048575) = false) (h2 : decide (1048577 < (s.size : Int)) = true) :
    Calls Try.prog 3 #[.agg #[.string s, .int .i64 p, .int .i64 n], .int .i64 k, .int .u64 v] w fun e w' => e = .returned (.bool true) ∧ Below w.heap.size w w' := by
  go_enter Try.func3, Try.ntmps3
  go_wp2_with (first | (go_at_call 9; refine (awake_any _).mono ?_; rintro e w1 ⟨rfl, hb1⟩; have hw1 : Below w.heap.size w w1 := Below.trans (by go_grown) (hb1.mono (by simp))))
  go_ret
  exact ⟨rfl, hw1⟩

set_option maxRecDepth 100000 in
set_option maxHeartbeats 800000 in
theorem law3_in1 (s : ByteArray) (p n k v : Int) (w : World) (hs : s.size ≤ 1048577) (hv : 0 ≤ v) (h40 : decide (40 < (s.size : Int)) = false) :
    Calls Try.prog 3 #[.agg #[.string s, .int .i64 p, .int .i64 n], .int .i64 k, .int .u64 v] w fun e w' => e = .returned (.bool true) ∧ Below w.heap.size w w' := by
  have hs' : s.size ≤ maxLen := by unfold maxLen; omega
  have hPut := fun w => Put_c s p n k v w hs hv
  have hRut := fun w => rPut_c s p n k v w hs hv
  have hDone := fun w => Done_all s p n w hs
  have hRone := fun w => rDone_all s p n w hs
  obtain ⟨S, hS⟩ : ∃ S, S = putS s p n k v := ⟨_, rfl⟩
  obtain ⟨P, hP⟩ : ∃ S, S = putP s p n k v := ⟨_, rfl⟩
  obtain ⟨M, hM⟩ : ∃ S, S = putN s p n k v := ⟨_, rfl⟩
  obtain ⟨E, hE⟩ : ∃ S, S = putE s.size p n k v := ⟨_, rfl⟩
  obtain ⟨D, hD⟩ : ∃ S, S = doneS s p n := ⟨_, rfl⟩
  obtain ⟨F, hF⟩ : ∃ S, S = doneE s.size p n := ⟨_, rfl⟩
  rw [← hS, ← hP, ← hM, ← hE] at hPut hRut
  rw [← hD, ← hF] at hDone hRone
  clear hS hP hM hE hD hF hs'
  have HS := Lib.hid hs
  have hs2 : (s.size : Int) ≤ 9223372036854775807 := by omega
  clear hs
  go_enter Try.func3, Try.ntmps3
  go_wp2_with (first
    | (go_at_call 10; refine (hPut _).mono ?_; rintro e w1 ⟨rfl, hb1⟩; have hA1 := (Blk.new w 23 [.string s, .int .i64 p, .int .i64 n]).belowS hb1; have hw1 : Below w.heap.size w w1 := Below.trans (by go_grown) (hb1.mono (by simp)); have a0 := hA1.cell 0 rfl; have a1 := hA1.cell 1 rfl; have a2 := hA1.cell 2 rfl; have al := hA1.lt; clear hb1)
    | (go_at_call 11; refine (hRut _).mono ?_; rintro e w2 ⟨rfl, hb2⟩; have hA2 := (hA1.alloc (.cells #[.string S, .int .i64 P, .int .i64 M] 23)).belowS hb2; have hB2 := (Blk.new w1 23 [.string S, .int .i64 P, .int .i64 M]).belowS hb2; have hz := hw1.size; have hw2 : Below w.heap.size w w2 := (hw1.alloc hz _).trans (hb2.mono (by simp; omega)); have hq := hA2.lt; have hr := hB2.lt))
  refine abs (R := fun W => Code.wp _ _ _ _ W) (fun W => Below w.heap.size w W ∧ Blk W w.heap.size 23 [.string s, .int .i64 p, .int .i64 n] ∧ Blk W w1.heap.size 23 [.string S, .int .i64 P, .int .i64 M] ∧ Blk W w2.heap.size 23 [.string S, .int .i64 P, .int .i64 M])
    ⟨hw2.alloc hw2.size _, hA2.alloc _, hB2.alloc _, Blk.new _ _ _⟩ ?_
  rintro w3 ⟨hw3, hA3, hB3, hC3⟩
  have c0 := hA3.cell 0 rfl
  have c1 := hA3.cell 1 rfl
  have c2 := hA3.cell 2 rfl
  have d0 := hB3.cell 0 rfl
  have d1 := hB3.cell 1 rfl
  have d2 := hB3.cell 2 rfl
  have e0 := hC3.cell 0 rfl
  have e1 := hC3.cell 1 rfl
  have e2 := hC3.cell 2 rfl
  have l0 := hA3.lt
  have l1 := hB3.lt
  have l2 := hC3.lt
  have hck := fun w => check_any s p n w (by have := HS.out; unfold maxLen; omega)
  have hrk := fun w => rcheck_any s p n w (by have := HS.out; unfold maxLen; omega)
  refine wp_region_B
    [(0, true), (1, true), (2, true), (3, true), (4, true), (5, true), (6, true), (7, true), (8, true), (9, true), (11, true), (10, false), (12, false), (13, true), (14, true)]
    (by kernel_rfl) (by kernel_rfl) (fun c a d v w h => by cases d <;> exact h) (fun hS1 => ?_)
  repeat (first
    | (refine wpS_nil ?_)
    | (refine wpS_skip (o := ⟨_, _, _, _, _, _⟩) rfl ?_ ?_; (focus rfl); simp only [Act.put, List.setIfInBounds_toArray, List.set_cons_zero, List.set_cons_succ])
    | (refine wpS_lightB (o := ⟨_, _, _, _, _, _⟩) (v := ?_) rfl ?_ (fun w' hS' => ?_) ?_; rotate_left; (focus rfl); (focus (go_simp; try with_reducible rfl)); simp only [Act.put, List.setIfInBounds_toArray, List.set_cons_zero, List.set_cons_succ])
    | (refine wpS_heavyB hS1 (o := ⟨_, _, _, _, _, _⟩) rfl ?_ (fun K hK => ?_); (focus rfl)
       go_wp2_with (first
         | (go_at_call 12; refine (hck _).mono ?_; rintro e w1 ⟨rfl, hb1⟩)
         | (go_at_call 13; refine (hrk _).mono ?_; rintro e w1 ⟨rfl, hb1⟩))
       refine ⟨?_, fun hS1 => ?_⟩
       · first | exact Below.refl _ _ | exact hb1 | exact (Below.refl _ _).alloc (Nat.le_refl _) _)
    | (refine wpS_hskip hS1 (o := ⟨_, _, _, _, _, _⟩) rfl ?_ ?_; (focus rfl); simp only [Act.put, List.setIfInBounds_toArray, List.set_cons_zero, List.set_cons_succ]))
  refine abs (R := fun W => Exit.then _ _ _ _ W) (fun W => Below w.heap.size w W ∧ Blk W w.heap.size 23 [.string s, .int .i64 p, .int .i64 n])
    ⟨hw3.trans (hS1.mono hw3.size), hA3.belowS hS1⟩ ?_
  rintro w4 ⟨hw4, hA4⟩
  have f0 := hA4.cell 0 rfl
  have f1 := hA4.cell 1 rfl
  have f2 := hA4.cell 2 rfl
  have fl := hA4.lt
  go_wp2_with (first
    | (go_at_call 14; refine (hDone _).mono ?_; rintro e w5 ⟨rfl, hb5⟩; have hA5 := hA4.belowS hb5; have hw5 := hw4.trans (hb5.mono hw4.size); have a0 := hA5.cell 0 rfl; have a1 := hA5.cell 1 rfl; have a2 := hA5.cell 2 rfl; have al := hA5.lt; clear hb5)
    | (go_at_call 15; refine (hRone _).mono ?_; rintro e w6 ⟨rfl, hb6⟩; have hw6 := hw5.trans (hb6.mono hw5.size); clear hb6)
    | (go_at_call 9; refine (awake_any _).mono ?_; rintro e w7 ⟨rfl, hb7⟩; have hw7 := hw6.trans (hb7.mono hw6.size); clear hb7))
  go_ret
  exact ⟨rfl, hw7⟩

set_option maxRecDepth 100000 in
set_option maxHeartbeats 800000 in
theorem law3_in2 (s : ByteArray) (p n k v : Int) (w : World) (hs : s.size ≤ 1048577) (hv : 0 ≤ v) (h40 : decide (40 < (s.size : Int)) = true) (hlo : decide ((s.size : Int) < 1048575) = false) (hhi : decide (1048577 < (s.size : Int)) = false) :
    Calls Try.prog 3 #[.agg #[.string s, .int .i64 p, .int .i64 n], .int .i64 k, .int .u64 v] w fun e w' => e = .returned (.bool true) ∧ Below w.heap.size w w' := by
  have hs' : s.size ≤ maxLen := by unfold maxLen; omega
  have hPut := fun w => Put_c s p n k v w hs hv
  have hRut := fun w => rPut_c s p n k v w hs hv
  have hDone := fun w => Done_all s p n w hs
  have hRone := fun w => rDone_all s p n w hs
  obtain ⟨S, hS⟩ : ∃ S, S = putS s p n k v := ⟨_, rfl⟩
  obtain ⟨P, hP⟩ : ∃ S, S = putP s p n k v := ⟨_, rfl⟩
  obtain ⟨M, hM⟩ : ∃ S, S = putN s p n k v := ⟨_, rfl⟩
  obtain ⟨E, hE⟩ : ∃ S, S = putE s.size p n k v := ⟨_, rfl⟩
  obtain ⟨D, hD⟩ : ∃ S, S = doneS s p n := ⟨_, rfl⟩
  obtain ⟨F, hF⟩ : ∃ S, S = doneE s.size p n := ⟨_, rfl⟩
  rw [← hS, ← hP, ← hM, ← hE] at hPut hRut
  rw [← hD, ← hF] at hDone hRone
  clear hS hP hM hE hD hF hs'
  have HS := Lib.hid hs
  have hs2 : (s.size : Int) ≤ 9223372036854775807 := by omega
  clear hs
  go_enter Try.func3, Try.ntmps3
  go_wp2_with (first
    | (go_at_call 10; refine (hPut _).mono ?_; rintro e w1 ⟨rfl, hb1⟩; have hA1 := (Blk.new w 23 [.string s, .int .i64 p, .int .i64 n]).belowS hb1; have hw1 : Below w.heap.size w w1 := Below.trans (by go_grown) (hb1.mono (by simp)); have a0 := hA1.cell 0 rfl; have a1 := hA1.cell 1 rfl; have a2 := hA1.cell 2 rfl; have al := hA1.lt; clear hb1)
    | (go_at_call 11; refine (hRut _).mono ?_; rintro e w2 ⟨rfl, hb2⟩; have hA2 := (hA1.alloc (.cells #[.string S, .int .i64 P, .int .i64 M] 23)).belowS hb2; have hB2 := (Blk.new w1 23 [.string S, .int .i64 P, .int .i64 M]).belowS hb2; have hz := hw1.size; have hw2 : Below w.heap.size w w2 := (hw1.alloc hz _).trans (hb2.mono (by simp; omega)); have hq := hA2.lt; have hr := hB2.lt))
  refine abs (R := fun W => Code.wp _ _ _ _ W) (fun W => Below w.heap.size w W ∧ Blk W w.heap.size 23 [.string s, .int .i64 p, .int .i64 n] ∧ Blk W w1.heap.size 23 [.string S, .int .i64 P, .int .i64 M] ∧ Blk W w2.heap.size 23 [.string S, .int .i64 P, .int .i64 M])
    ⟨hw2.alloc hw2.size _, hA2.alloc _, hB2.alloc _, Blk.new _ _ _⟩ ?_
  rintro w3 ⟨hw3, hA3, hB3, hC3⟩
  have c0 := hA3.cell 0 rfl
  have c1 := hA3.cell 1 rfl
  have c2 := hA3.cell 2 rfl
  have d0 := hB3.cell 0 rfl
  have d1 := hB3.cell 1 rfl
  have d2 := hB3.cell 2 rfl
  have e0 := hC3.cell 0 rfl
  have e1 := hC3.cell 1 rfl
  have e2 := hC3.cell 2 rfl
  have l0 := hA3.lt
  have l1 := hB3.lt
  have l2 := hC3.lt
  have hck := fun w => check_any s p n w (by have := HS.out; unfold maxLen; omega)
  have hrk := fun w => rcheck_any s p n w (by have := HS.out; unfold maxLen; omega)
  refine wp_region_B
    [(0, true), (1, true), (2, true), (3, true), (4, true), (5, true), (6, true), (7, true), (8, true), (9, true), (11, true), (10, false), (12, false), (13, true), (14, true)]
    (by kernel_rfl) (by kernel_rfl) (fun c a d v w h => by cases d <;> exact h) (fun hS1 => ?_)
  repeat (first
    | (refine wpS_nil ?_)
    | (refine wpS_skip (o := ⟨_, _, _, _, _, _⟩) rfl ?_ ?_; (focus rfl); simp only [Act.put, List.setIfInBounds_toArray, List.set_cons_zero, List.set_cons_succ])
    | (refine wpS_lightB (o := ⟨_, _, _, _, _, _⟩) (v := ?_) rfl ?_ (fun w' hS' => ?_) ?_; rotate_left; (focus rfl); (focus (go_simp; try with_reducible rfl)); simp only [Act.put, List.setIfInBounds_toArray, List.set_cons_zero, List.set_cons_succ])
    | (refine wpS_heavyB hS1 (o := ⟨_, _, _, _, _, _⟩) rfl ?_ (fun K hK => ?_); (focus rfl)
       go_wp2_with (first
         | (go_at_call 12; refine (hck _).mono ?_; rintro e w1 ⟨rfl, hb1⟩)
         | (go_at_call 13; refine (hrk _).mono ?_; rintro e w1 ⟨rfl, hb1⟩))
       refine ⟨?_, fun hS1 => ?_⟩
       · first | exact Below.refl _ _ | exact hb1 | exact (Below.refl _ _).alloc (Nat.le_refl _) _)
    | (refine wpS_hskip hS1 (o := ⟨_, _, _, _, _, _⟩) rfl ?_ ?_; (focus rfl); simp only [Act.put, List.setIfInBounds_toArray, List.set_cons_zero, List.set_cons_succ]))
  refine abs (R := fun W => Exit.then _ _ _ _ W) (fun W => Below w.heap.size w W ∧ Blk W w.heap.size 23 [.string s, .int .i64 p, .int .i64 n])
    ⟨hw3.trans (hS1.mono hw3.size), hA3.belowS hS1⟩ ?_
  rintro w4 ⟨hw4, hA4⟩
  have f0 := hA4.cell 0 rfl
  have f1 := hA4.cell 1 rfl
  have f2 := hA4.cell 2 rfl
  have fl := hA4.lt
  go_wp2_with (first
    | (go_at_call 14; refine (hDone _).mono ?_; rintro e w5 ⟨rfl, hb5⟩; have hA5 := hA4.belowS hb5; have hw5 := hw4.trans (hb5.mono hw4.size); have a0 := hA5.cell 0 rfl; have a1 := hA5.cell 1 rfl; have a2 := hA5.cell 2 rfl; have al := hA5.lt; clear hb5)
    | (go_at_call 15; refine (hRone _).mono ?_; rintro e w6 ⟨rfl, hb6⟩; have hw6 := hw5.trans (hb6.mono hw5.size); clear hb6)
    | (go_at_call 9; refine (awake_any _).mono ?_; rintro e w7 ⟨rfl, hb7⟩; have hw7 := hw6.trans (hb7.mono hw6.size); clear hb7))
  go_ret
  exact ⟨rfl, hw7⟩

theorem law3 (s : ByteArray) (p n k v : Int) (w : World) (hs : s.size ≤ maxLen) (hv : 0 ≤ v) :
    Calls Try.prog 3 #[.agg #[.string s, .int .i64 p, .int .i64 n], .int .i64 k, .int .u64 v] w fun e w' => e = .returned (.bool true) ∧ Below w.heap.size w w' := by
  have hs' : (s.size : Int) ≤ 9223372036854775807 := by unfold maxLen at hs; omega
  by_cases h40 : 40 < (s.size : Int)
  · by_cases hlo : (s.size : Int) < 1048575
    · exact law3_lo s p n k v w hs' (decide_eq_true h40) (decide_eq_true hlo)
    · by_cases hhi : 1048577 < (s.size : Int)
      · exact law3_hi s p n k v w hs' (decide_eq_true h40) (decide_eq_false hlo) (decide_eq_true hhi)
      · exact law3_in2 s p n k v w (by omega) hv (decide_eq_true h40) (decide_eq_false hlo) (decide_eq_false hhi)
  · exact law3_in1 s p n k v w (by omega) hv (decide_eq_false h40)

end Go.Proofs.Ytlmoenjggggpkaa
