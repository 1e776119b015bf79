import Derived.Test.YtlmoenjggggpkaaT22
namespace Go.Proofs.Ytlmoenjggggpkaa
open Go.RowKit Go.Chz
set_option linter.unusedVariables false

theorem Put_at {s t : ByteArray} {part n k v a b e0 : Int} (w : World) (hs : s.size ≤ 1048577) (hv : 0 ≤ v) (h : putE s.size part n k v = e0 ∧ putS s part n k v = t ∧ putP s part n k v = a ∧ putN s part n k v = b) :
    Calls Try.prog 10 #[.agg #[.string s, .int .i64 part, .int .i64 n], .int .i64 k, .int .u64 v] w fun e w' => e = .returned (.tuple #[.agg #[.string t, .int .i64 a, .int .i64 b], .int .i64 e0]) ∧ Below w.heap.size w w' := by
  obtain ⟨rfl, rfl, rfl, rfl⟩ := h
  exact Put_c s part n k v w hs hv
theorem Take_at {s t : ByteArray} {left n a b e0 : Int} (w : World) (hs : s.size ≤ 1048577) (h : takeE s left n = e0 ∧ tkS s left n = t ∧ tkL s left n = a ∧ tkV s left n = b) :
    Calls Try.prog 21 #[.agg #[.string s, .int .i64 left], .int .i64 n] w fun e w' => e = .returned (.tuple #[.agg #[.string t, .int .i64 a], .int .u64 b, .int .i64 e0]) ∧ Below w.heap.size w w' := by
  obtain ⟨rfl, rfl, rfl, rfl⟩ := h
  exact Take_any s left n w hs
theorem Skip_at {s t : ByteArray} {left n a e0 : Int} (w : World) (hs : s.size ≤ 1048577) (h : takeE s left n = e0 ∧ tkS s left n = t ∧ tkL s left n = a) :
    Calls Try.prog 27 #[.agg #[.string s, .int .i64 left], .int .i64 n] w fun e w' => e = .returned (.tuple #[.agg #[.string t, .int .i64 a], .int .i64 e0]) ∧ Below w.heap.size w w' := by
  obtain ⟨rfl, rfl, rfl⟩ := h
  exact Skip_any s left n w hs
theorem Read_at {s t : ByteArray} {a e0 : Int} (w : World) (hs : s.size ≤ 1048577) (h : bitsE s = e0 ∧ readS s = t ∧ bitsN s = a) :
    Calls Try.prog 19 #[.string s] w fun e w' => e = .returned (.tuple #[.agg #[.string t, .int .i64 a], .int .i64 e0]) ∧ Below w.heap.size w w' := by
  obtain ⟨rfl, rfl, rfl⟩ := h
  exact Read_any s w hs
theorem lbits_at {s : ByteArray} {a e0 : Int} (w : World) (hs : s.size ≤ 1048577) (h : bitsE s = e0 ∧ bitsN s = a) :
    Calls Try.prog 25 #[.string s, .int .i64 a, .int .i64 e0] w fun e w' => e = .returned (.bool true) ∧ Below w.heap.size w w' := by
  have hc := fun w => Bits_any s w hs
  rw [h.1, h.2] at hc
  go_enter Try.func25, Try.ntmps25
  go_wp2_with (first | (go_at_call 18; refine (hc _).mono ?_; rintro e w1 ⟨rfl, hb1⟩))
  go_ret
  exact ⟨rfl, hb1⟩
theorem peeks_at {s : ByteArray} {L n v : Int} (w : World) (hs : s.size ≤ 1048577) (h : bitsE s = 0 ∧ readS s = s ∧ bitsN s = L ∧ askE s L n = 0 ∧ peekV s L n = v) :
    Calls Try.prog 26 #[.string s, .int .i64 n, .int .u64 v] w fun e w' => e = .returned (.bool true) ∧ Below w.heap.size w w' := by
  have hc := fun w => Read_any s w hs
  have hp := fun w => Peek_any s L n w hs
  rw [h.1, h.2.1, h.2.2.1] at hc
  rw [h.2.2.2.1, h.2.2.2.2] at hp
  clear h
  go_enter Try.func26, Try.ntmps26
  go_wp2_with (first
    | (go_at_call 19; refine (hc _).mono ?_; rintro e w1 ⟨rfl, hb1⟩)
    | (go_at_call 22; refine (hp _).mono ?_; rintro e w2 ⟨rfl, hb2⟩; have hz := hb1.size; have hw2 : Below w.heap.size w w2 := (hb1.alloc hz _).trans (hb2.mono (by simp; omega))))
  go_ret
  exact ⟨rfl, hw2⟩
theorem kn_p1 (w : World) : Calls Try.prog 10 #[.agg #[.string ⟨#[]⟩, .int .i64 0, .int .i64 0], .int .i64 32, .int .u64 4294967295] w fun e w' => e = .returned (.tuple #[.agg #[.string ⟨#[255, 255, 255, 255]⟩, .int .i64 0, .int .i64 0], .int .i64 0]) ∧ Below w.heap.size w w' := Put_at w (by decide) (by decide) (by decide +kernel)
theorem kn_p2 (w : World) : Calls Try.prog 10 #[.agg #[.string ⟨#[]⟩, .int .i64 0, .int .i64 0], .int .i64 33, .int .u64 0] w fun e w' => e = .returned (.tuple #[.agg #[.string ⟨#[]⟩, .int .i64 0, .int .i64 0], .int .i64 2]) ∧ Below w.heap.size w w' := Put_at w (by decide) (by decide) (by decide +kernel)
theorem kn_p3 (w : World) : Calls Try.prog 10 #[.agg #[.string ⟨#[]⟩, .int .i64 0, .int .i64 0], .int .i64 2, .int .u64 4] w fun e w' => e = .returned (.tuple #[.agg #[.string ⟨#[]⟩, .int .i64 0, .int .i64 0], .int .i64 2]) ∧ Below w.heap.size w w' := Put_at w (by decide) (by decide) (by decide +kernel)
theorem kn_p4 (w : World) : Calls Try.prog 10 #[.agg #[.string ⟨#[]⟩, .int .i64 0, .int .i64 0], .int .i64 (-1), .int .u64 0] w fun e w' => e = .returned (.tuple #[.agg #[.string ⟨#[]⟩, .int .i64 0, .int .i64 0], .int .i64 2]) ∧ Below w.heap.size w w' := Put_at w (by decide) (by decide) (by decide +kernel)
theorem kn_e1 (w : World) : Calls Try.prog 23 #[.agg #[.string ⟨#[]⟩, .int .i64 0, .int .i64 0], .string ⟨#[1]⟩] w fun e w' => e = .returned (.bool true) ∧ Below w.heap.size w w' := ends_ok _ _ _ _ w (by decide) (by decide +kernel) (by decide +kernel)
theorem kn_l1 (w : World) : Calls Try.prog 24 #[.agg #[.string ⟨#[]⟩, .int .i64 0, .int .i64 0], .int .i64 8, .int .u64 255] w fun e w' => e = .returned (.agg #[.string ⟨#[255]⟩, .int .i64 0, .int .i64 0]) ∧ Below w.heap.size w w' := lput_at w (by decide) (by decide) (by decide +kernel)
theorem kn_e2 (w : World) : Calls Try.prog 23 #[.agg #[.string ⟨#[255]⟩, .int .i64 0, .int .i64 0], .string ⟨#[255, 1]⟩] w fun e w' => e = .returned (.bool true) ∧ Below w.heap.size w w' := ends_ok _ _ _ _ w (by decide) (by decide +kernel) (by decide +kernel)
theorem kn_b1 (w : World) : Calls Try.prog 25 #[.string ⟨#[1]⟩, .int .i64 0, .int .i64 0] w fun e w' => e = .returned (.bool true) ∧ Below w.heap.size w w' := lbits_at w (by decide) (by decide +kernel)
theorem kn_b2 (w : World) : Calls Try.prog 25 #[.string ⟨#[255, 1]⟩, .int .i64 8, .int .i64 0] w fun e w' => e = .returned (.bool true) ∧ Below w.heap.size w w' := lbits_at w (by decide) (by decide +kernel)
theorem kn_b3 (w : World) : Calls Try.prog 25 #[.string ⟨#[0]⟩, .int .i64 0, .int .i64 22] w fun e w' => e = .returned (.bool true) ∧ Below w.heap.size w w' := lbits_at w (by decide) (by decide +kernel)
theorem kn_b4 (w : World) : Calls Try.prog 25 #[.string ⟨#[]⟩, .int .i64 0, .int .i64 22] w fun e w' => e = .returned (.bool true) ∧ Below w.heap.size w w' := lbits_at w (by decide) (by decide +kernel)
theorem kn_b5 (w : World) : Calls Try.prog 25 #[.string ⟨#[1, 0]⟩, .int .i64 0, .int .i64 22] w fun e w' => e = .returned (.bool true) ∧ Below w.heap.size w w' := lbits_at w (by decide) (by decide +kernel)
theorem kn_r1 (w : World) : Calls Try.prog 19 #[.string ⟨#[17, 6]⟩] w fun e w' => e = .returned (.tuple #[.agg #[.string ⟨#[17, 6]⟩, .int .i64 10], .int .i64 0]) ∧ Below w.heap.size w w' := Read_at w (by decide) (by decide +kernel)
theorem kn_t1 (w : World) : Calls Try.prog 21 #[.agg #[.string ⟨#[17, 6]⟩, .int .i64 10], .int .i64 6] w fun e w' => e = .returned (.tuple #[.agg #[.string ⟨#[17, 6]⟩, .int .i64 4], .int .u64 33, .int .i64 0]) ∧ Below w.heap.size w w' := Take_at w (by decide) (by decide +kernel)
theorem kn_t2 (w : World) : Calls Try.prog 21 #[.agg #[.string ⟨#[17, 6]⟩, .int .i64 4], .int .i64 4] w fun e w' => e = .returned (.tuple #[.agg #[.string ⟨#[17, 6]⟩, .int .i64 0], .int .u64 1, .int .i64 0]) ∧ Below w.heap.size w w' := Take_at w (by decide) (by decide +kernel)
theorem kn_t3 (w : World) : Calls Try.prog 21 #[.agg #[.string ⟨#[17, 6]⟩, .int .i64 0], .int .i64 1] w fun e w' => e = .returned (.tuple #[.agg #[.string ⟨#[]⟩, .int .i64 0], .int .u64 0, .int .i64 5]) ∧ Below w.heap.size w w' := Take_at w (by decide) (by decide +kernel)
theorem kn_k1 (w : World) : Calls Try.prog 26 #[.string ⟨#[13]⟩, .int .i64 3, .int .u64 5] w fun e w' => e = .returned (.bool true) ∧ Below w.heap.size w w' := peeks_at (L := 3) w (by decide) (by decide +kernel)
theorem kn_k2 (w : World) : Calls Try.prog 26 #[.string ⟨#[13]⟩, .int .i64 2, .int .u64 2] w fun e w' => e = .returned (.bool true) ∧ Below w.heap.size w w' := peeks_at (L := 3) w (by decide) (by decide +kernel)
theorem kn_k3 (w : World) : Calls Try.prog 26 #[.string ⟨#[13]⟩, .int .i64 5, .int .u64 20] w fun e w' => e = .returned (.bool true) ∧ Below w.heap.size w w' := peeks_at (L := 3) w (by decide) (by decide +kernel)
theorem kn_k4 (w : World) : Calls Try.prog 26 #[.string ⟨#[1]⟩, .int .i64 4, .int .u64 0] w fun e w' => e = .returned (.bool true) ∧ Below w.heap.size w w' := peeks_at (L := 0) w (by decide) (by decide +kernel)
theorem kn_r2 (w : World) : Calls Try.prog 19 #[.string ⟨#[13]⟩] w fun e w' => e = .returned (.tuple #[.agg #[.string ⟨#[13]⟩, .int .i64 3], .int .i64 0]) ∧ Below w.heap.size w w' := Read_at w (by decide) (by decide +kernel)
theorem kn_s1 (w : World) : Calls Try.prog 27 #[.agg #[.string ⟨#[13]⟩, .int .i64 3], .int .i64 2] w fun e w' => e = .returned (.tuple #[.agg #[.string ⟨#[13]⟩, .int .i64 1], .int .i64 0]) ∧ Below w.heap.size w w' := Skip_at w (by decide) (by decide +kernel)
theorem kn_s2 (w : World) : Calls Try.prog 27 #[.agg #[.string ⟨#[13]⟩, .int .i64 3], .int .i64 4] w fun e w' => e = .returned (.tuple #[.agg #[.string ⟨#[]⟩, .int .i64 0], .int .i64 5]) ∧ Below w.heap.size w w' := Skip_at w (by decide) (by decide +kernel)
theorem kn_right (w : World) : Calls Try.prog 28 #[.agg #[.string ⟨#[13]⟩, .int .i64 4]] w fun e w' => e = .returned (.int .i64 10) ∧ Below w.heap.size w w' := by
  have h := Right_any ⟨#[13]⟩ 4 w (by decide)
  rw [show rightE ⟨#[13]⟩ 4 = 10 by decide +kernel] at h; exact h
theorem kn_check (w : World) : Calls Try.prog 12 #[.agg #[.string ⟨#[]⟩, .int .i64 0, .int .i64 8]] w fun e w' => e = .returned (.int .i64 10) ∧ Below w.heap.size w w' := by
  have h := check_any ⟨#[]⟩ 0 8 w (by decide)
  rw [show chk (ByteArray.size ⟨#[]⟩) 0 8 = 10 by decide +kernel] at h; exact h

set_option maxRecDepth 100000 in
set_option maxHeartbeats 3200000 in
theorem law7 (w : World) : Calls Try.prog 7 #[] w fun e w' => e = .returned (.bool true) ∧ Below w.heap.size w w' := by
  go_enter Try.func7, Try.ntmps7
  go_wp2_with (first
    | (go_at_call 10; (first | (with_reducible refine (kn_p1 _).mono ?_; rintro e w1 ⟨rfl, hb⟩; have hA := (Blk.new w 23 [.string ⟨#[]⟩, .int .i64 0, .int .i64 0]).belowS hb; have hw : Below w.heap.size w w1 := Below.trans (by go_grown) (hb.mono (by simp)); have a0 := hA.cell 0 rfl; have a1 := hA.cell 1 rfl; have a2 := hA.cell 2 rfl; have al := hA.lt; clear hb) | (with_reducible refine (kn_p2 _).mono ?_; rintro e w1 ⟨rfl, hb⟩; have hA := (hA.alloc _).belowS hb; have hz := hw.size; have hw := (hw.alloc hz _).trans (hb.mono (by simp; omega)); have a0 := hA.cell 0 rfl; have a1 := hA.cell 1 rfl; have a2 := hA.cell 2 rfl; have al := hA.lt; clear hb) | (with_reducible refine (kn_p3 _).mono ?_; rintro e w1 ⟨rfl, hb⟩; have hA := (hA.alloc _).belowS hb; have hz := hw.size; have hw := (hw.alloc hz _).trans (hb.mono (by simp; omega)); have a0 := hA.cell 0 rfl; have a1 := hA.cell 1 rfl; have a2 := hA.cell 2 rfl; have al := hA.lt; clear hb) | (with_reducible refine (kn_p4 _).mono ?_; rintro e w1 ⟨rfl, hb⟩; have hA := (hA.alloc _).belowS hb; have hz := hw.size; have hw := (hw.alloc hz _).trans (hb.mono (by simp; omega)); have a0 := hA.cell 0 rfl; have a1 := hA.cell 1 rfl; have a2 := hA.cell 2 rfl; have al := hA.lt; clear hb))) 
    | (go_at_call 23; (first | (with_reducible refine (kn_e1 _).mono ?_; rintro e w1 ⟨rfl, hb⟩; have hA := (hA.alloc _).belowS hb; have hz := hw.size; have hw := (hw.alloc hz _).trans (hb.mono (by simp; omega)); have a0 := hA.cell 0 rfl; have a1 := hA.cell 1 rfl; have a2 := hA.cell 2 rfl; have al := hA.lt; clear hb) | (with_reducible refine (kn_e2 _).mono ?_; rintro e w1 ⟨rfl, hb⟩; have hw := hw.trans (hb.mono hw.size); clear hb))) 
    | (go_at_call 24; (first | (with_reducible refine (kn_l1 _).mono ?_; rintro e w1 ⟨rfl, hb⟩; have hA := hA.belowS hb; have hw := hw.trans (hb.mono hw.size); have a0 := hA.cell 0 rfl; have a1 := hA.cell 1 rfl; have a2 := hA.cell 2 rfl; have al := hA.lt; clear hb))) 
    | (go_at_call 25; (first | (with_reducible refine (kn_b1 _).mono ?_; rintro e w1 ⟨rfl, hb⟩; have hw := hw.trans (hb.mono hw.size); clear hb) | (with_reducible refine (kn_b2 _).mono ?_; rintro e w1 ⟨rfl, hb⟩; have hw := hw.trans (hb.mono hw.size); clear hb) | (with_reducible refine (kn_b3 _).mono ?_; rintro e w1 ⟨rfl, hb⟩; have hw := hw.trans (hb.mono hw.size); clear hb) | (with_reducible refine (kn_b4 _).mono ?_; rintro e w1 ⟨rfl, hb⟩; have hw := hw.trans (hb.mono hw.size); clear hb) | (with_reducible refine (kn_b5 _).mono ?_; rintro e w1 ⟨rfl, hb⟩; have hw := hw.trans (hb.mono hw.size); clear hb))) 
    | (go_at_call 19; (first | (with_reducible refine (kn_r1 _).mono ?_; rintro e w1 ⟨rfl, hb⟩; have hw := hw.trans (hb.mono hw.size); have hq := hw.size; have hnew := Blk.new w1 39 [.string ⟨#[17, 6]⟩, .int .i64 10]; clear hb) | (with_reducible refine (kn_r2 _).mono ?_; rintro e w1 ⟨rfl, hb⟩; have hR := hR.belowS hb; have hw := hw.trans (hb.mono hw.size); have r0 := hR.cell 0 rfl; have r1 := hR.cell 1 rfl; have rf0 := hR.frozen 0; have rf1 := hR.frozen 1; have rl := hR.lt; clear hb))) 
    | (go_at_call 21; (first | (with_reducible refine (kn_t1 _).mono ?_; rintro e w1 ⟨rfl, hb⟩; have hR := hnew.belowS hb; have hz := hw.size; have hw := (hw.alloc hz _).trans (hb.mono (by simp; omega)); have r0 := hR.cell 0 rfl; have r1 := hR.cell 1 rfl; have rf0 := hR.frozen 0; have rf1 := hR.frozen 1; have rl := hR.lt; clear hb) | (with_reducible refine (kn_t2 _).mono ?_; rintro e w1 ⟨rfl, hb⟩; have hR := ((hR.set 0 _).set 1 _).belowS hb; have hz := hw.size; have hw := ((hw.setCell hq _).setCell hq _).trans (hb.mono (by simp; omega)); have r0 := hR.cell 0 rfl; have r1 := hR.cell 1 rfl; have rf0 := hR.frozen 0; have rf1 := hR.frozen 1; have rl := hR.lt; clear hb) | (with_reducible refine (kn_t3 _).mono ?_; rintro e w1 ⟨rfl, hb⟩; have hR := ((hR.set 0 _).set 1 _).belowS hb; have hz := hw.size; have hw := ((hw.setCell hq _).setCell hq _).trans (hb.mono (by simp; omega)); have r0 := hR.cell 0 rfl; have r1 := hR.cell 1 rfl; have rf0 := hR.frozen 0; have rf1 := hR.frozen 1; have rl := hR.lt; clear hb))) 
    | (go_at_call 26; (first | (with_reducible refine (kn_k1 _).mono ?_; rintro e w1 ⟨rfl, hb⟩; have hR := hR.belowS hb; have hw := hw.trans (hb.mono hw.size); have r0 := hR.cell 0 rfl; have r1 := hR.cell 1 rfl; have rf0 := hR.frozen 0; have rf1 := hR.frozen 1; have rl := hR.lt; clear hb) | (with_reducible refine (kn_k2 _).mono ?_; rintro e w1 ⟨rfl, hb⟩; have hR := hR.belowS hb; have hw := hw.trans (hb.mono hw.size); have r0 := hR.cell 0 rfl; have r1 := hR.cell 1 rfl; have rf0 := hR.frozen 0; have rf1 := hR.frozen 1; have rl := hR.lt; clear hb) | (with_reducible refine (kn_k3 _).mono ?_; rintro e w1 ⟨rfl, hb⟩; have hR := hR.belowS hb; have hw := hw.trans (hb.mono hw.size); have r0 := hR.cell 0 rfl; have r1 := hR.cell 1 rfl; have rf0 := hR.frozen 0; have rf1 := hR.frozen 1; have rl := hR.lt; clear hb) | (with_reducible refine (kn_k4 _).mono ?_; rintro e w1 ⟨rfl, hb⟩; have hR := hR.belowS hb; have hw := hw.trans (hb.mono hw.size); have r0 := hR.cell 0 rfl; have r1 := hR.cell 1 rfl; have rf0 := hR.frozen 0; have rf1 := hR.frozen 1; have rl := hR.lt; clear hb))) 
    | (go_at_call 27; (first | (with_reducible refine (kn_s1 _).mono ?_; rintro e w1 ⟨rfl, hb⟩; have hR := ((hR.set 0 _).set 1 _).belowS hb; have hz := hw.size; have hw := ((hw.setCell hq _).setCell hq _).trans (hb.mono (by simp; omega)); have r0 := hR.cell 0 rfl; have r1 := hR.cell 1 rfl; have rf0 := hR.frozen 0; have rf1 := hR.frozen 1; have rl := hR.lt; have hN := Blk.new w1 39 [.string ⟨#[13]⟩, .int .i64 1]; clear hb) | (with_reducible refine (kn_s2 _).mono ?_; rintro e w1 ⟨rfl, hb⟩; have hR := (hR.alloc _).belowS hb; have hN := hN.belowS hb; have hz := hw.size; have hw := (hw.alloc hz _).trans (hb.mono (by simp; omega)); have r0 := hR.cell 0 rfl; have r1 := hR.cell 1 rfl; have rf0 := hR.frozen 0; have rf1 := hR.frozen 1; have rl := hR.lt; have n1 := hN.cell 1 rfl; have nl := hN.lt; clear hb))) 
    | (go_at_call 28; (first | (with_reducible refine (kn_right _).mono ?_; rintro e w1 ⟨rfl, hb⟩; have hw := hw.trans (hb.mono hw.size); clear hb))) 
    | (go_at_call 12; (first | (with_reducible refine (kn_check _).mono ?_; rintro e w1 ⟨rfl, hb⟩; have hw := hw.trans (hb.mono hw.size); clear hb))) 
    | (go_at_call 9; refine (awake_any _).mono ?_; rintro e w1 ⟨rfl, hb⟩; have hw := hw.trans (hb.mono hw.size)))
  go_ret
  exact ⟨rfl, hw⟩

end Go.Proofs.Ytlmoenjggggpkaa
