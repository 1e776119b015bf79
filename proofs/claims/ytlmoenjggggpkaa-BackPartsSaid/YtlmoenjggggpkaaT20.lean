import Derived.Test.YtlmoenjggggpkaaT19
namespace Go.Proofs.Ytlmoenjggggpkaa
open Go.RowKit Go.Chz
set_option linter.unusedVariables false

set_option maxHeartbeats 800000 in
theorem rPeek_bad (s : ByteArray) (left n E : Int) (w : World) (hc : ∀ w, Calls Try.prog 42 #[.agg #[.string s, .int .i64 left], .int .i64 n] w fun e w' => e = .returned (.int .i64 E) ∧ Below w.heap.size w w') (h : (E != 0) = true) :
    Calls Try.prog 33 #[.agg #[.string s, .int .i64 left], .int .i64 n] w fun e w' => e = .returned (.tuple #[.int .u64 0, .int .i64 E]) ∧ Below w.heap.size w w' := by
  go_enter Try.func33, Try.ntmps33
  go_wp2_with (first
    | (go_at_call 42; refine (hc _).mono ?_; rintro e w1 ⟨rfl, hb1⟩; have hA := (Blk.new w 39 [.string s, .int .i64 left]).belowS hb1; have a0 := hA.cell 0 rfl; have a1 := hA.cell 1 rfl; have al := hA.lt; have hw1 : Below w.heap.size w w1 := Below.trans (by go_grown) (hb1.mono (by simp))))
  go_ret2
  exact ⟨rfl, hw1⟩

theorem bitAt_u8 (s : ByteArray) (i : Nat) (b : UInt8) (hi : i / 8 < s.size) (hb : s[i / 8] = b) : bits BinOp.and IntKind.u8 ((b.toNat : Int) / 2 ^ (i % 8)) 1 = (bitAt s i : Int) := by
  have h := bit_u8 ⟨b.toNat, b.toNat_lt⟩ ⟨i % 8, by omega⟩
  rw [bitAt, dif_pos hi, hb]; exact h

set_option maxHeartbeats 1600000 in
theorem rPeek_ok (s : ByteArray) (L K : Nat) (w : World) (hs : s.size ≤ 1048577) (hL : L ≤ 8 * s.size) (hK : K ≤ 32) (hc : ∀ w, Calls Try.prog 42 #[.agg #[.string s, .int .i64 L], .int .i64 K] w fun e w' => e = .returned (.int .i64 0) ∧ Below w.heap.size w w') :
    Calls Try.prog 33 #[.agg #[.string s, .int .i64 L], .int .i64 K] w fun e w' => e = .returned (.tuple #[.int .u64 (pv s L K), .int .i64 0]) ∧ Below w.heap.size w w' := by
  go_enter Try.func33, Try.ntmps33
  go_wp2_with (first
    | (go_at_call 42; refine (hc _).mono ?_; rintro e w1 ⟨rfl, hb1⟩; have hA := (Blk.new w 39 [.string s, .int .i64 L]).belowS hb1; have a0 := hA.cell 0 rfl; have a1 := hA.cell 1 rfl; have al := hA.lt; have hw1 : Below w.heap.size w w1 := Below.trans (by go_grown) (hb1.mono (by simp))))
  go_loopg [7, 8] K (fun q out i wr => ∃ j : Nat, q + j = K ∧ i = .int .i64 j ∧ out = .int .u64 (pv s L j) ∧ wr = w1)
  case atStart =>
    exact ⟨0, rfl, rfl, rfl, rfl⟩
  case round =>
    obtain ⟨j, hq, rfl, rfl, rfl⟩ := hrel
    by_cases hj : j < K
    · have hlt := pv_lt s L j
      have hp := pow_le_of (show j ≤ 31 by omega)
      obtain ⟨P, hP⟩ : ∃ P, P = pv s L j := ⟨_, rfl⟩
      rw [← hP] at hlt ⊢
      have hPb : P < 2147483648 := by omega
      have HP := Lib.hid hP
      clear hP hlt hp
      by_cases hjL : j < L
      · have hat : ((L - 1 - j : Nat) : Int) = (L : Int) - 1 - j := by omega
        have hi : (L - 1 - j) / 8 < s.size := by omega
        obtain ⟨i, hA⟩ : ∃ a, a = L - 1 - j := ⟨_, rfl⟩
        rw [← hA] at hat hi
        have HA := Lib.hid hA
        have hat' := hat.symm
        obtain ⟨b, hb⟩ : ∃ b, s[i / 8] = b := ⟨_, rfl⟩
        have hb8 := bitAt_u8 s i b hi hb
        have hbl := bitAt_lt s i
        obtain ⟨B, hB⟩ : ∃ B, B = bitAt s i := ⟨_, rfl⟩
        rw [← hB] at hb8 hbl
        have HB := Lib.hid hB
        have hq1 : (i : Int).tdiv 8 = ((i / 8 : Nat) : Int) := by rw [Int.tdiv_eq_ediv_of_nonneg (by omega)]; omega
        have hr1 : (i : Int).tmod 8 = ((i % 8 : Nat) : Int) := by rw [Int.tmod_eq_emod_of_nonneg (by omega)]; omega
        clear hA hat hB
        go_wp2
        go_roundg (gk - 1)
        case measure => omega
        case rel =>
          refine ⟨j + 1, by omega, rfl, ?_, rfl⟩
          rw [pv, if_pos hjL, ← HP.out, ← HA.out, ← HB.out]
          congr 1; omega
      · go_wp2
        go_roundg (gk - 1)
        case measure => omega
        case rel =>
          refine ⟨j + 1, by omega, rfl, ?_, rfl⟩
          rw [pv, if_neg hjL, ← HP.out]
          congr 1; omega
    · go_wp2
      have e : j = K := by omega
      subst e
      go_ret2
      exact ⟨rfl, hw1⟩

theorem rPeek_any (s : ByteArray) (left n : Int) (w : World) (hs : s.size ≤ 1048577) :
    Calls Try.prog 33 #[.agg #[.string s, .int .i64 left], .int .i64 n] w fun e w' => e = .returned (.tuple #[.int .u64 (peekV s left n), .int .i64 (askE s left n)]) ∧ Below w.heap.size w w' := by
  have hc := fun w => asked_any s left n w hs
  by_cases h : askE s left n = 0
  · rw [peekV, if_pos h]
    rw [h] at hc ⊢
    obtain ⟨hr, hn0, hn1⟩ := askE_zero h
    obtain ⟨hs2, hl0, hl1, hl2⟩ := rightE_zero hr
    obtain ⟨K, rfl⟩ := Int.eq_ofNat_of_zero_le hn0
    obtain ⟨L, rfl⟩ := Int.eq_ofNat_of_zero_le hl0
    exact rPeek_ok s L K w hs (by omega) (by omega) hc
  · rw [peekV, if_neg h]
    exact rPeek_bad s left n _ w hc (by simpa using h)

set_option maxHeartbeats 800000 in
theorem rSkip_bad (s : ByteArray) (left n : Int) (w : World) (hs : s.size ≤ 1048577) (h : (askE s left n != 0) = true) :
    Calls Try.prog 34 #[.agg #[.string s, .int .i64 left], .int .i64 n] w fun e w' => e = .returned (.tuple #[.agg #[.string ⟨#[]⟩, .int .i64 0], .int .i64 (askE s left n)]) ∧ Below w.heap.size w w' := by
  have hc := fun w => asked_any s left n w hs
  have h1 : (askE s left n == 0) = false := by simpa using h
  go_enter Try.func34, Try.ntmps34
  go_wp2_with (first
    | (go_at_call 42; refine (hc _).mono ?_; rintro e w1 ⟨rfl, hb1⟩; have hA := ((Blk.new w 39 [.string s, .int .i64 left]).alloc (.cells #[.string ⟨#[]⟩, .int .i64 0] 39)).belowS hb1; have hR := (Blk.new' (w := w.alloc (.cells #[.string s, .int .i64 left] 39)) (H := w.heap.size + 1) (by simp) 39 [.string ⟨#[]⟩, .int .i64 0]).belowS hb1; have a0 := hA.cell 0 rfl; have a1 := hA.cell 1 rfl; have al := hA.lt; have x0 := hA.frozen 0; have x1 := hA.frozen 1; have r0 := hR.cell 0 rfl; have r1 := hR.cell 1 rfl; have g0 := hR.frozen 0; have g1 := hR.frozen 1; have rl := hR.lt; have hw1 : Below w.heap.size w w1 := Below.trans (by go_grown) (hb1.mono (by simp; omega))))
  refine bodyPost_ret (v := .tuple #[.agg #[.string ⟨#[]⟩, .int .i64 0], .int .i64 (askE s left n)]) (results_2 rfl (res_cell (t := 39) (cs := [.string ⟨#[]⟩, .int .i64 0]) rfl ((hR.set 0 _).set 1 _) Try.underlying39 rfl (by kernel_rfl)) rfl) rfl ⟨rfl, ?_⟩
  go_grown

set_option maxHeartbeats 800000 in
theorem rSkip_short (s : ByteArray) (left n : Int) (w : World) (hs : s.size ≤ 1048577) (h : askE s left n = 0) (h1 : decide (left < n) = true) :
    Calls Try.prog 34 #[.agg #[.string s, .int .i64 left], .int .i64 n] w fun e w' => e = .returned (.tuple #[.agg #[.string ⟨#[]⟩, .int .i64 0], .int .i64 5]) ∧ Below w.heap.size w w' := by
  have hc := fun w => asked_any s left n w hs
  rw [h] at hc
  go_enter Try.func34, Try.ntmps34
  go_wp2_with (first
    | (go_at_call 42; refine (hc _).mono ?_; rintro e w1 ⟨rfl, hb1⟩; have hA := ((Blk.new w 39 [.string s, .int .i64 left]).alloc (.cells #[.string ⟨#[]⟩, .int .i64 0] 39)).belowS hb1; have hR := (Blk.new' (w := w.alloc (.cells #[.string s, .int .i64 left] 39)) (H := w.heap.size + 1) (by simp) 39 [.string ⟨#[]⟩, .int .i64 0]).belowS hb1; have a0 := hA.cell 0 rfl; have a1 := hA.cell 1 rfl; have al := hA.lt; have x0 := hA.frozen 0; have x1 := hA.frozen 1; have r0 := hR.cell 0 rfl; have r1 := hR.cell 1 rfl; have g0 := hR.frozen 0; have g1 := hR.frozen 1; have rl := hR.lt; have hw1 : Below w.heap.size w w1 := Below.trans (by go_grown) (hb1.mono (by simp; omega))))
  refine bodyPost_ret (v := .tuple #[.agg #[.string ⟨#[]⟩, .int .i64 0], .int .i64 5]) (results_2 rfl (res_cell (t := 39) (cs := [.string ⟨#[]⟩, .int .i64 0]) rfl ((hR.set 0 _).set 1 _) Try.underlying39 rfl (by kernel_rfl)) rfl) rfl ⟨rfl, ?_⟩
  go_grown

set_option maxHeartbeats 800000 in
theorem rSkip_ok (s : ByteArray) (left n : Int) (w : World) (hs : s.size ≤ 1048577) (h : askE s left n = 0) (h1 : decide (left < n) = false) :
    Calls Try.prog 34 #[.agg #[.string s, .int .i64 left], .int .i64 n] w fun e w' => e = .returned (.tuple #[.agg #[.string s, .int .i64 (left - n)], .int .i64 0]) ∧ Below w.heap.size w w' := by
  have hc := fun w => asked_any s left n w hs
  rw [h] at hc
  have hln : n ≤ left := by simpa using h1
  obtain ⟨hr, hn0, hn1⟩ := askE_zero h
  obtain ⟨hs2, hl0, hl1, hl2⟩ := rightE_zero hr
  go_enter Try.func34, Try.ntmps34
  go_wp2_with (first
    | (go_at_call 42; refine (hc _).mono ?_; rintro e w1 ⟨rfl, hb1⟩; have hA := ((Blk.new w 39 [.string s, .int .i64 left]).alloc (.cells #[.string ⟨#[]⟩, .int .i64 0] 39)).belowS hb1; have hR := (Blk.new' (w := w.alloc (.cells #[.string s, .int .i64 left] 39)) (H := w.heap.size + 1) (by simp) 39 [.string ⟨#[]⟩, .int .i64 0]).belowS hb1; have a0 := hA.cell 0 rfl; have a1 := hA.cell 1 rfl; have al := hA.lt; have x0 := hA.frozen 0; have x1 := hA.frozen 1; have r0 := hR.cell 0 rfl; have r1 := hR.cell 1 rfl; have g0 := hR.frozen 0; have g1 := hR.frozen 1; have rl := hR.lt; have hw1 : Below w.heap.size w w1 := Below.trans (by go_grown) (hb1.mono (by simp; omega))))
  refine bodyPost_ret (v := .tuple #[.agg #[.string s, .int .i64 (left - n)], .int .i64 0]) (results_2 rfl (res_cell (t := 39) (cs := [.string s, .int .i64 (left - n)]) rfl (((hR.far (p := ⟨w.heap.size, 1, none⟩) (by simp) (.int .i64 (left - n))).set 0 (.string s)).set 1 (.int .i64 (left - n))) Try.underlying39 rfl (by kernel_rfl)) rfl) rfl ⟨rfl, ?_⟩
  go_grown

theorem rSkip_any (s : ByteArray) (left n : Int) (w : World) (hs : s.size ≤ 1048577) :
    Calls Try.prog 34 #[.agg #[.string s, .int .i64 left], .int .i64 n] w fun e w' => e = .returned (.tuple #[.agg #[.string (tkS s left n), .int .i64 (tkL s left n)], .int .i64 (takeE s left n)]) ∧ Below w.heap.size w w' := by
  by_cases h : askE s left n = 0
  · by_cases h1 : left < n
    · have e : takeE s left n = 5 := by rw [takeE, h, decide_eq_true h1]; rfl
      rw [tkS, tkL, e, if_neg (by decide), if_neg (by decide)]
      exact rSkip_short s left n w hs h (decide_eq_true h1)
    · have e : takeE s left n = 0 := by rw [takeE, h, decide_eq_false h1]; rfl
      rw [tkS, tkL, e, if_pos rfl, if_pos rfl]
      exact rSkip_ok s left n w hs h (decide_eq_false h1)
  · have e : takeE s left n = askE s left n := by rw [takeE]; exact firstNZ_l h
    rw [tkS, tkL, e, if_neg h, if_neg h]
    exact rSkip_bad s left n w hs (by simpa using h)

end Go.Proofs.Ytlmoenjggggpkaa
