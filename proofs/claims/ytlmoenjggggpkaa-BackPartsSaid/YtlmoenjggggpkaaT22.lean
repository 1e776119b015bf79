import Derived.Test.YtlmoenjggggpkaaT21
namespace Go.Proofs.Ytlmoenjggggpkaa
open Go.RowKit Go.Chz
set_option linter.unusedVariables false

set_option maxHeartbeats 800000 in
theorem law8_lo (s : ByteArray) (left n : Int) (w : World) (hs : (s.size : Int) ≤ 9223372036854775807) (h40 : decide (40 < (s.size : Int)) = true) (h : decide ((s.size : Int) < 1048576) = true) :
    Calls Try.prog 8 #[.agg #[.string s, .int .i64 left], .int .i64 n] w fun e w' => e = .returned (.bool true) ∧ Below w.heap.size w w' := by
  go_enter Try.func8, Try.ntmps8
  go_wp2_with (first | (go_at_call 9; refine (awake_any _).mono ?_; rintro e w1 ⟨rfl, hb1⟩; have hw1 : Below w.heap.size w w1 := Below.trans (by go_grown) (hb1.mono (by simp))))
  go_ret
  exact ⟨rfl, hw1⟩

set_option maxHeartbeats 800000 in
theorem law8_hi (s : ByteArray) (left n : Int) (w : World) (hs : (s.size : Int) ≤ 9223372036854775807) (h40 : decide (40 < (s.size : Int)) = true) (h : decide ((s.size : Int) < 1048576) = false) (h2 : decide (1048577 < (s.size : Int)) = true) :
    Calls Try.prog 8 #[.agg #[.string s, .int .i64 left], .int .i64 n] w fun e w' => e = .returned (.bool true) ∧ Below w.heap.size w w' := by
  go_enter Try.func8, Try.ntmps8
  go_wp2_with (first | (go_at_call 9; refine (awake_any _).mono ?_; rintro e w1 ⟨rfl, hb1⟩; have hw1 : Below w.heap.size w w1 := Below.trans (by go_grown) (hb1.mono (by simp))))
  go_ret
  exact ⟨rfl, hw1⟩

set_option maxRecDepth 100000 in
set_option maxHeartbeats 3200000 in
theorem law8_in1 (s : ByteArray) (left n : Int) (w : World) (hs : s.size ≤ 1048577) (h40 : decide (40 < (s.size : Int)) = false) :
    Calls Try.prog 8 #[.agg #[.string s, .int .i64 left], .int .i64 n] w fun e w' => e = .returned (.bool true) ∧ Below w.heap.size w w' := by
  have c18 := fun w => Bits_any s w hs
  have c29 := fun w => rBits_any s w hs
  have c19 := fun w => Read_any s w hs
  have c30 := fun w => rRead_any s w hs
  have c28 := fun w => Right_any s left w hs
  have c31 := fun w => rRight_any s left w hs
  have c21 := fun w => Take_any s left n w hs
  have c32 := fun w => rTake_any s left n w hs
  have c22 := fun w => Peek_any s left n w hs
  have c33 := fun w => rPeek_any s left n w hs
  have c27 := fun w => Skip_any s left n w hs
  have c34 := fun w => rSkip_any s left n w hs
  obtain ⟨bn, hbn⟩ : ∃ x, x = bitsN s := ⟨_, rfl⟩
  obtain ⟨be, hbe⟩ : ∃ x, x = bitsE s := ⟨_, rfl⟩
  obtain ⟨rs, hrs⟩ : ∃ x, x = readS s := ⟨_, rfl⟩
  obtain ⟨re, hre⟩ : ∃ x, x = rightE s left := ⟨_, rfl⟩
  obtain ⟨ts, hts⟩ : ∃ x, x = tkS s left n := ⟨_, rfl⟩
  obtain ⟨tl, htl⟩ : ∃ x, x = tkL s left n := ⟨_, rfl⟩
  obtain ⟨tv, htv⟩ : ∃ x, x = tkV s left n := ⟨_, rfl⟩
  obtain ⟨te, hte⟩ : ∃ x, x = takeE s left n := ⟨_, rfl⟩
  obtain ⟨pk, hpk⟩ : ∃ x, x = peekV s left n := ⟨_, rfl⟩
  obtain ⟨ae, hae⟩ : ∃ x, x = askE s left n := ⟨_, rfl⟩
  rw [← hbn, ← hbe] at c18 c29
  rw [← hrs, ← hbn, ← hbe] at c19 c30
  rw [← hre] at c28 c31
  rw [← hts, ← htl, ← htv, ← hte] at c21 c32
  rw [← hpk, ← hae] at c22 c33
  rw [← hts, ← htl, ← hte] at c27 c34
  clear hbn hbe hrs hre hts htl htv hte hpk hae
  have hs2 : (s.size : Int) ≤ 9223372036854775807 := by omega
  clear hs
  go_enter Try.func8, Try.ntmps8
  go_wp2_with (first
    | (go_at_call 18; refine (c18 _).mono ?_; rintro e w1 ⟨rfl, hb1⟩; have hA1 := (Blk.new w 39 [.string s, .int .i64 left]).belowS hb1; have hw1 : Below w.heap.size w w1 := Below.trans (by go_grown) (hb1.mono (by simp)); have a0 := hA1.cell 0 rfl; have a1 := hA1.cell 1 rfl; have al := hA1.lt; clear hb1)
    | (go_at_call 29; refine (c29 _).mono ?_; rintro e w2 ⟨rfl, hb2⟩; have hA2 := hA1.belowS hb2; have hw2 := hw1.trans (hb2.mono hw1.size); have a0 := hA2.cell 0 rfl; have a1 := hA2.cell 1 rfl; have al := hA2.lt; clear hb2)
    | (go_at_call 19; refine (c19 _).mono ?_; rintro e w3 ⟨rfl, hb3⟩; have hA3 := hA2.belowS hb3; have hw3 := hw2.trans (hb3.mono hw2.size); have a0 := hA3.cell 0 rfl; have a1 := hA3.cell 1 rfl; have al := hA3.lt; clear hb3)
    | (go_at_call 30; refine (c30 _).mono ?_; rintro e w4 ⟨rfl, hb4⟩; have hA4 := (hA3.alloc (.cells #[.string rs, .int .i64 bn] 39)).belowS hb4; have hR4 := (Blk.new w3 39 [.string rs, .int .i64 bn]).belowS hb4; have hz3 := hw3.size; have hw4 : Below w.heap.size w w4 := (hw3.alloc hz3 _).trans (hb4.mono (by simp; omega)); have a0 := hA4.cell 0 rfl; have a1 := hA4.cell 1 rfl; have al := hA4.lt; have r0 := hR4.cell 0 rfl; have r1 := hR4.cell 1 rfl; have rl := hR4.lt; clear hb4))
  refine abs (R := fun W => Code.wp _ _ _ _ W) (fun W => Below w.heap.size w W ∧ Blk W w.heap.size 39 [.string s, .int .i64 left] ∧ Blk W w3.heap.size 39 [.string rs, .int .i64 bn] ∧ Blk W w4.heap.size 39 [.string rs, .int .i64 bn])
    ⟨hw4.alloc hw4.size _, hA4.alloc _, hR4.alloc _, Blk.new _ _ _⟩ ?_
  rintro v0 ⟨hv0, hA5, hR5, hQ5⟩
  have a0 := hA5.cell 0 rfl; have a1 := hA5.cell 1 rfl; have al := hA5.lt
  have r0 := hR5.cell 0 rfl; have r1 := hR5.cell 1 rfl; have rl := hR5.lt
  have q0 := hQ5.cell 0 rfl; have q1 := hQ5.cell 1 rfl; have ql := hQ5.lt
  refine wp_region_B
    [(0, true), (1, true), (2, true), (3, true), (4, true), (5, true), (6, true), (7, true), (8, true), (9, true), (10, true), (11, true), (12, true), (13, true), (14, true), (15, true), (16, true), (17, true), (18, true), (19, true), (21, true), (20, false), (22, false), (23, true), (24, true)]
    (by kernel_rfl) (by kernel_rfl) (fun c a d v w h => by cases d <;> exact h) (fun hS1 => ?_)
  repeat (first
    | (refine wpS_nil ?_)
    | (refine wpS_skip (o := ⟨_, _, _, _, _, _⟩) rfl ?_ ?_; (focus rfl); simp only [Act.put, List.setIfInBounds_toArray, List.set_cons_zero, List.set_cons_succ])
    | (refine wpS_lightB (o := ⟨_, _, _, _, _, _⟩) (v := ?_) rfl ?_ (fun w' hS' => ?_) ?_; rotate_left; (focus rfl); (focus (go_simp; try with_reducible rfl)); simp only [Act.put, List.setIfInBounds_toArray, List.set_cons_zero, List.set_cons_succ])
    | (refine wpS_heavyB hS1 (o := ⟨_, _, _, _, _, _⟩) rfl ?_ (fun K hK => ?_); (focus rfl)
       go_wp2_with (first
         | (go_at_call 28; refine (c28 _).mono ?_; rintro e w1 ⟨rfl, hb1⟩)
         | (go_at_call 31; refine (c31 _).mono ?_; rintro e w1 ⟨rfl, hb1⟩))
       refine ⟨?_, fun hS1 => ?_⟩
       · first | exact Below.refl _ _ | exact hb1 | exact (Below.refl _ _).alloc (Nat.le_refl _) _)
    | (refine wpS_hskip hS1 (o := ⟨_, _, _, _, _, _⟩) rfl ?_ ?_; (focus rfl); simp only [Act.put, List.setIfInBounds_toArray, List.set_cons_zero, List.set_cons_succ]))
  have hzz : w.heap.size < w3.heap.size ∧ w3.heap.size < w4.heap.size := ⟨hA3.lt, hR4.lt⟩
  have hww : w.heap.size ≤ w3.heap.size := by omega
  refine abs (R := fun W => Exit.then _ _ _ _ W) (fun W => Below w.heap.size w W ∧ Blk W w.heap.size 39 [.string s, .int .i64 left] ∧ Blk W w3.heap.size 39 [.string rs, .int .i64 bn] ∧ Blk W w4.heap.size 39 [.string rs, .int .i64 bn])
    ⟨hv0.trans (hS1.mono hv0.size), hA5.belowS hS1, hR5.belowS hS1, hQ5.belowS hS1⟩ ?_
  clear hS1 hA5 hR5 hQ5 hv0 hA1 hA2 hA3 hA4 hR4 hw1 hw2 hw3 hw4
  rintro w5 ⟨hw5, hA5, hR5, hQ5⟩
  have hz1 := hzz.1
  have hz2 := hzz.2
  have hne : w4.heap.size ≠ w3.heap.size := by omega
  have hwb : w.heap.size ≤ w4.heap.size := by omega
  clear hzz
  have a0 := hA5.cell 0 rfl; have a1 := hA5.cell 1 rfl; have al := hA5.lt
  have r0 := hR5.cell 0 rfl; have r1 := hR5.cell 1 rfl; have rl := hR5.lt; have rf0 := hR5.frozen 0; have rf1 := hR5.frozen 1
  have q0 := hQ5.cell 0 rfl; have q1 := hQ5.cell 1 rfl; have ql := hQ5.lt; have qf0 := hQ5.frozen 0; have qf1 := hQ5.frozen 1
  go_wp2_with (first
    | (go_at_call 21; refine (c21 _).mono ?_; rintro e w6 ⟨rfl, hb⟩; have hA6 := hA5.belowS hb; have hR6 := hR5.belowS hb; have hQ6 := hQ5.belowS hb; have hw6 := hw5.trans (hb.mono hw5.size); have a0 := hA6.cell 0 rfl; have a1 := hA6.cell 1 rfl; have al := hA6.lt; clear hb)
    | (go_at_call 32; refine (c32 _).mono ?_; rintro e w7 ⟨rfl, hb⟩; have hA7 := (hA6.alloc (.cells #[.string ts, .int .i64 tl] 39)).belowS hb; have hR7 := (hR6.alloc (.cells #[.string ts, .int .i64 tl] 39)).belowS hb; have hQ7 := (hQ6.alloc (.cells #[.string ts, .int .i64 tl] 39)).belowS hb; have hX7 := (Blk.new w6 39 [.string ts, .int .i64 tl]).belowS hb; have hz6 := hw6.size; have hw7 : Below w.heap.size w w7 := (hw6.alloc hz6 _).trans (hb.mono (by simp; omega)); have a0 := hA7.cell 0 rfl; have a1 := hA7.cell 1 rfl; have al := hA7.lt; have x0 := hX7.cell 0 rfl; have x1 := hX7.cell 1 rfl; have xl := hX7.lt; clear hb)
    | (go_at_call 22; refine (c22 _).mono ?_; rintro e w8 ⟨rfl, hb⟩; have hA8 := (hA7.alloc (.cells #[.string ts, .int .i64 tl] 39)).belowS hb; have hR8 := (hR7.alloc (.cells #[.string ts, .int .i64 tl] 39)).belowS hb; have hQ8 := (hQ7.alloc (.cells #[.string ts, .int .i64 tl] 39)).belowS hb; have hz7 := hw7.size; have hw8 : Below w.heap.size w w8 := (hw7.alloc hz7 _).trans (hb.mono (by simp; omega)); have a0 := hA8.cell 0 rfl; have a1 := hA8.cell 1 rfl; have al := hA8.lt; clear hb)
    | (go_at_call 33; refine (c33 _).mono ?_; rintro e w9 ⟨rfl, hb⟩; have hA9 := hA8.belowS hb; have hR9 := hR8.belowS hb; have hQ9 := hQ8.belowS hb; have hw9 := hw8.trans (hb.mono hw8.size); have a0 := hA9.cell 0 rfl; have a1 := hA9.cell 1 rfl; have al := hA9.lt; clear hb)
    | (go_at_call 27; refine (c27 _).mono ?_; rintro e w10 ⟨rfl, hb⟩; have hA10 := hA9.belowS hb; have hR10 := hR9.belowS hb; have hQ10 := hQ9.belowS hb; have hw10 := hw9.trans (hb.mono hw9.size); have a0 := hA10.cell 0 rfl; have a1 := hA10.cell 1 rfl; have al := hA10.lt; have r0 := hR10.cell 0 rfl; have r1 := hR10.cell 1 rfl; have rl := hR10.lt; have rf0 := hR10.frozen 0; have rf1 := hR10.frozen 1; clear hb)
    | (go_at_call 34; refine (c34 _).mono ?_; rintro e w11 ⟨rfl, hb⟩; have hR11 := ((hR10.set 0 (.string ts)).set 1 (.int .i64 tl)).belowS hb; have hQ11 := ((hQ10.far (p := ⟨w3.heap.size, 0, none⟩) hne (.string ts)).far (p := ⟨w3.heap.size, 1, none⟩) hne (.int .i64 tl)).belowS hb; have hz10 := hw10.size; have hw11 : Below w.heap.size w w11 := ((hw10.setCell (p := ⟨w3.heap.size, 0, none⟩) hww (.string ts)).setCell (p := ⟨w3.heap.size, 1, none⟩) hww (.int .i64 tl)).trans (hb.mono (by simp; omega)); have r0 := hR11.cell 0 rfl; have r1 := hR11.cell 1 rfl; have rl := hR11.lt; have rf0 := hR11.frozen 0; have rf1 := hR11.frozen 1; have q0 := hQ11.cell 0 rfl; have q1 := hQ11.cell 1 rfl; have ql := hQ11.lt; have qf0 := hQ11.frozen 0; have qf1 := hQ11.frozen 1; clear hb)
    | (go_at_call 9; refine (awake_any _).mono ?_; rintro e w12 ⟨rfl, hb⟩; have hz11 := hw11.size; have hw12 : Below w.heap.size w w12 := ((hw11.setCell (p := ⟨w4.heap.size, 0, none⟩) hwb (.string ts)).setCell (p := ⟨w4.heap.size, 1, none⟩) hwb (.int .i64 tl)).trans (hb.mono (by simp; omega)); clear hb))
  go_ret
  exact ⟨rfl, hw12⟩

set_option maxRecDepth 100000 in
set_option maxHeartbeats 3200000 in
theorem law8_in2 (s : ByteArray) (left n : Int) (w : World) (hs : s.size ≤ 1048577) (h40 : decide (40 < (s.size : Int)) = true) (hlo : decide ((s.size : Int) < 1048576) = false) (hhi : decide (1048577 < (s.size : Int)) = false) :
    Calls Try.prog 8 #[.agg #[.string s, .int .i64 left], .int .i64 n] w fun e w' => e = .returned (.bool true) ∧ Below w.heap.size w w' := by
  have c18 := fun w => Bits_any s w hs
  have c29 := fun w => rBits_any s w hs
  have c19 := fun w => Read_any s w hs
  have c30 := fun w => rRead_any s w hs
  have c28 := fun w => Right_any s left w hs
  have c31 := fun w => rRight_any s left w hs
  have c21 := fun w => Take_any s left n w hs
  have c32 := fun w => rTake_any s left n w hs
  have c22 := fun w => Peek_any s left n w hs
  have c33 := fun w => rPeek_any s left n w hs
  have c27 := fun w => Skip_any s left n w hs
  have c34 := fun w => rSkip_any s left n w hs
  obtain ⟨bn, hbn⟩ : ∃ x, x = bitsN s := ⟨_, rfl⟩
  obtain ⟨be, hbe⟩ : ∃ x, x = bitsE s := ⟨_, rfl⟩
  obtain ⟨rs, hrs⟩ : ∃ x, x = readS s := ⟨_, rfl⟩
  obtain ⟨re, hre⟩ : ∃ x, x = rightE s left := ⟨_, rfl⟩
  obtain ⟨ts, hts⟩ : ∃ x, x = tkS s left n := ⟨_, rfl⟩
  obtain ⟨tl, htl⟩ : ∃ x, x = tkL s left n := ⟨_, rfl⟩
  obtain ⟨tv, htv⟩ : ∃ x, x = tkV s left n := ⟨_, rfl⟩
  obtain ⟨te, hte⟩ : ∃ x, x = takeE s left n := ⟨_, rfl⟩
  obtain ⟨pk, hpk⟩ : ∃ x, x = peekV s left n := ⟨_, rfl⟩
  obtain ⟨ae, hae⟩ : ∃ x, x = askE s left n := ⟨_, rfl⟩
  rw [← hbn, ← hbe] at c18 c29
  rw [← hrs, ← hbn, ← hbe] at c19 c30
  rw [← hre] at c28 c31
  rw [← hts, ← htl, ← htv, ← hte] at c21 c32
  rw [← hpk, ← hae] at c22 c33
  rw [← hts, ← htl, ← hte] at c27 c34
  clear hbn hbe hrs hre hts htl htv hte hpk hae
  have hs2 : (s.size : Int) ≤ 9223372036854775807 := by omega
  clear hs
  go_enter Try.func8, Try.ntmps8
  go_wp2_with (first
    | (go_at_call 18; refine (c18 _).mono ?_; rintro e w1 ⟨rfl, hb1⟩; have hA1 := (Blk.new w 39 [.string s, .int .i64 left]).belowS hb1; have hw1 : Below w.heap.size w w1 := Below.trans (by go_grown) (hb1.mono (by simp)); have a0 := hA1.cell 0 rfl; have a1 := hA1.cell 1 rfl; have al := hA1.lt; clear hb1)
    | (go_at_call 29; refine (c29 _).mono ?_; rintro e w2 ⟨rfl, hb2⟩; have hA2 := hA1.belowS hb2; have hw2 := hw1.trans (hb2.mono hw1.size); have a0 := hA2.cell 0 rfl; have a1 := hA2.cell 1 rfl; have al := hA2.lt; clear hb2)
    | (go_at_call 19; refine (c19 _).mono ?_; rintro e w3 ⟨rfl, hb3⟩; have hA3 := hA2.belowS hb3; have hw3 := hw2.trans (hb3.mono hw2.size); have a0 := hA3.cell 0 rfl; have a1 := hA3.cell 1 rfl; have al := hA3.lt; clear hb3)
    | (go_at_call 30; refine (c30 _).mono ?_; rintro e w4 ⟨rfl, hb4⟩; have hA4 := (hA3.alloc (.cells #[.string rs, .int .i64 bn] 39)).belowS hb4; have hR4 := (Blk.new w3 39 [.string rs, .int .i64 bn]).belowS hb4; have hz3 := hw3.size; have hw4 : Below w.heap.size w w4 := (hw3.alloc hz3 _).trans (hb4.mono (by simp; omega)); have a0 := hA4.cell 0 rfl; have a1 := hA4.cell 1 rfl; have al := hA4.lt; have r0 := hR4.cell 0 rfl; have r1 := hR4.cell 1 rfl; have rl := hR4.lt; clear hb4))
  refine abs (R := fun W => Code.wp _ _ _ _ W) (fun W => Below w.heap.size w W ∧ Blk W w.heap.size 39 [.string s, .int .i64 left] ∧ Blk W w3.heap.size 39 [.string rs, .int .i64 bn] ∧ Blk W w4.heap.size 39 [.string rs, .int .i64 bn])
    ⟨hw4.alloc hw4.size _, hA4.alloc _, hR4.alloc _, Blk.new _ _ _⟩ ?_
  rintro v0 ⟨hv0, hA5, hR5, hQ5⟩
  have a0 := hA5.cell 0 rfl; have a1 := hA5.cell 1 rfl; have al := hA5.lt
  have r0 := hR5.cell 0 rfl; have r1 := hR5.cell 1 rfl; have rl := hR5.lt
  have q0 := hQ5.cell 0 rfl; have q1 := hQ5.cell 1 rfl; have ql := hQ5.lt
  refine wp_region_B
    [(0, true), (1, true), (2, true), (3, true), (4, true), (5, true), (6, true), (7, true), (8, true), (9, true), (10, true), (11, true), (12, true), (13, true), (14, true), (15, true), (16, true), (17, true), (18, true), (19, true), (21, true), (20, false), (22, false), (23, true), (24, true)]
    (by kernel_rfl) (by kernel_rfl) (fun c a d v w h => by cases d <;> exact h) (fun hS1 => ?_)
  repeat (first
    | (refine wpS_nil ?_)
    | (refine wpS_skip (o := ⟨_, _, _, _, _, _⟩) rfl ?_ ?_; (focus rfl); simp only [Act.put, List.setIfInBounds_toArray, List.set_cons_zero, List.set_cons_succ])
    | (refine wpS_lightB (o := ⟨_, _, _, _, _, _⟩) (v := ?_) rfl ?_ (fun w' hS' => ?_) ?_; rotate_left; (focus rfl); (focus (go_simp; try with_reducible rfl)); simp only [Act.put, List.setIfInBounds_toArray, List.set_cons_zero, List.set_cons_succ])
    | (refine wpS_heavyB hS1 (o := ⟨_, _, _, _, _, _⟩) rfl ?_ (fun K hK => ?_); (focus rfl)
       go_wp2_with (first
         | (go_at_call 28; refine (c28 _).mono ?_; rintro e w1 ⟨rfl, hb1⟩)
         | (go_at_call 31; refine (c31 _).mono ?_; rintro e w1 ⟨rfl, hb1⟩))
       refine ⟨?_, fun hS1 => ?_⟩
       · first | exact Below.refl _ _ | exact hb1 | exact (Below.refl _ _).alloc (Nat.le_refl _) _)
    | (refine wpS_hskip hS1 (o := ⟨_, _, _, _, _, _⟩) rfl ?_ ?_; (focus rfl); simp only [Act.put, List.setIfInBounds_toArray, List.set_cons_zero, List.set_cons_succ]))
  have hzz : w.heap.size < w3.heap.size ∧ w3.heap.size < w4.heap.size := ⟨hA3.lt, hR4.lt⟩
  have hww : w.heap.size ≤ w3.heap.size := by omega
  refine abs (R := fun W => Exit.then _ _ _ _ W) (fun W => Below w.heap.size w W ∧ Blk W w.heap.size 39 [.string s, .int .i64 left] ∧ Blk W w3.heap.size 39 [.string rs, .int .i64 bn] ∧ Blk W w4.heap.size 39 [.string rs, .int .i64 bn])
    ⟨hv0.trans (hS1.mono hv0.size), hA5.belowS hS1, hR5.belowS hS1, hQ5.belowS hS1⟩ ?_
  clear hS1 hA5 hR5 hQ5 hv0 hA1 hA2 hA3 hA4 hR4 hw1 hw2 hw3 hw4
  rintro w5 ⟨hw5, hA5, hR5, hQ5⟩
  have hz1 := hzz.1
  have hz2 := hzz.2
  have hne : w4.heap.size ≠ w3.heap.size := by omega
  have hwb : w.heap.size ≤ w4.heap.size := by omega
  clear hzz
  have a0 := hA5.cell 0 rfl; have a1 := hA5.cell 1 rfl; have al := hA5.lt
  have r0 := hR5.cell 0 rfl; have r1 := hR5.cell 1 rfl; have rl := hR5.lt; have rf0 := hR5.frozen 0; have rf1 := hR5.frozen 1
  have q0 := hQ5.cell 0 rfl; have q1 := hQ5.cell 1 rfl; have ql := hQ5.lt; have qf0 := hQ5.frozen 0; have qf1 := hQ5.frozen 1
  go_wp2_with (first
    | (go_at_call 21; refine (c21 _).mono ?_; rintro e w6 ⟨rfl, hb⟩; have hA6 := hA5.belowS hb; have hR6 := hR5.belowS hb; have hQ6 := hQ5.belowS hb; have hw6 := hw5.trans (hb.mono hw5.size); have a0 := hA6.cell 0 rfl; have a1 := hA6.cell 1 rfl; have al := hA6.lt; clear hb)
    | (go_at_call 32; refine (c32 _).mono ?_; rintro e w7 ⟨rfl, hb⟩; have hA7 := (hA6.alloc (.cells #[.string ts, .int .i64 tl] 39)).belowS hb; have hR7 := (hR6.alloc (.cells #[.string ts, .int .i64 tl] 39)).belowS hb; have hQ7 := (hQ6.alloc (.cells #[.string ts, .int .i64 tl] 39)).belowS hb; have hX7 := (Blk.new w6 39 [.string ts, .int .i64 tl]).belowS hb; have hz6 := hw6.size; have hw7 : Below w.heap.size w w7 := (hw6.alloc hz6 _).trans (hb.mono (by simp; omega)); have a0 := hA7.cell 0 rfl; have a1 := hA7.cell 1 rfl; have al := hA7.lt; have x0 := hX7.cell 0 rfl; have x1 := hX7.cell 1 rfl; have xl := hX7.lt; clear hb)
    | (go_at_call 22; refine (c22 _).mono ?_; rintro e w8 ⟨rfl, hb⟩; have hA8 := (hA7.alloc (.cells #[.string ts, .int .i64 tl] 39)).belowS hb; have hR8 := (hR7.alloc (.cells #[.string ts, .int .i64 tl] 39)).belowS hb; have hQ8 := (hQ7.alloc (.cells #[.string ts, .int .i64 tl] 39)).belowS hb; have hz7 := hw7.size; have hw8 : Below w.heap.size w w8 := (hw7.alloc hz7 _).trans (hb.mono (by simp; omega)); have a0 := hA8.cell 0 rfl; have a1 := hA8.cell 1 rfl; have al := hA8.lt; clear hb)
    | (go_at_call 33; refine (c33 _).mono ?_; rintro e w9 ⟨rfl, hb⟩; have hA9 := hA8.belowS hb; have hR9 := hR8.belowS hb; have hQ9 := hQ8.belowS hb; have hw9 := hw8.trans (hb.mono hw8.size); have a0 := hA9.cell 0 rfl; have a1 := hA9.cell 1 rfl; have al := hA9.lt; clear hb)
    | (go_at_call 27; refine (c27 _).mono ?_; rintro e w10 ⟨rfl, hb⟩; have hA10 := hA9.belowS hb; have hR10 := hR9.belowS hb; have hQ10 := hQ9.belowS hb; have hw10 := hw9.trans (hb.mono hw9.size); have a0 := hA10.cell 0 rfl; have a1 := hA10.cell 1 rfl; have al := hA10.lt; have r0 := hR10.cell 0 rfl; have r1 := hR10.cell 1 rfl; have rl := hR10.lt; have rf0 := hR10.frozen 0; have rf1 := hR10.frozen 1; clear hb)
    | (go_at_call 34; refine (c34 _).mono ?_; rintro e w11 ⟨rfl, hb⟩; have hR11 := ((hR10.set 0 (.string ts)).set 1 (.int .i64 tl)).belowS hb; have hQ11 := ((hQ10.far (p := ⟨w3.heap.size, 0, none⟩) hne (.string ts)).far (p := ⟨w3.heap.size, 1, none⟩) hne (.int .i64 tl)).belowS hb; have hz10 := hw10.size; have hw11 : Below w.heap.size w w11 := ((hw10.setCell (p := ⟨w3.heap.size, 0, none⟩) hww (.string ts)).setCell (p := ⟨w3.heap.size, 1, none⟩) hww (.int .i64 tl)).trans (hb.mono (by simp; omega)); have r0 := hR11.cell 0 rfl; have r1 := hR11.cell 1 rfl; have rl := hR11.lt; have rf0 := hR11.frozen 0; have rf1 := hR11.frozen 1; have q0 := hQ11.cell 0 rfl; have q1 := hQ11.cell 1 rfl; have ql := hQ11.lt; have qf0 := hQ11.frozen 0; have qf1 := hQ11.frozen 1; clear hb)
    | (go_at_call 9; refine (awake_any _).mono ?_; rintro e w12 ⟨rfl, hb⟩; have hz11 := hw11.size; have hw12 : Below w.heap.size w w12 := ((hw11.setCell (p := ⟨w4.heap.size, 0, none⟩) hwb (.string ts)).setCell (p := ⟨w4.heap.size, 1, none⟩) hwb (.int .i64 tl)).trans (hb.mono (by simp; omega)); clear hb))
  go_ret
  exact ⟨rfl, hw12⟩

theorem law8 (s : ByteArray) (left n : Int) (w : World) (hs : s.size ≤ maxLen) (w1 : (Lit.int .i64 left).wf = true) (w2 : (Lit.int .i64 n).wf = true) :
    Calls Try.prog 8 #[.agg #[.string s, .int .i64 left], .int .i64 n] w fun e w' => e = .returned (.bool true) ∧ Below w.heap.size w w' := by
  have hs' : (s.size : Int) ≤ 9223372036854775807 := by unfold maxLen at hs; omega
  by_cases h40 : 40 < (s.size : Int)
  · by_cases hlo : (s.size : Int) < 1048576
    · exact law8_lo s left n w hs' (decide_eq_true h40) (decide_eq_true hlo)
    · by_cases hhi : 1048577 < (s.size : Int)
      · exact law8_hi s left n w hs' (decide_eq_true h40) (decide_eq_false hlo) (decide_eq_true hhi)
      · exact law8_in2 s left n w (by omega) (decide_eq_true h40) (decide_eq_false hlo) (decide_eq_false hhi)
  · exact law8_in1 s left n w (by omega) (decide_eq_false h40)

end Go.Proofs.Ytlmoenjggggpkaa
