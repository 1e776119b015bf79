import Derived.Test.YtlmoenjggggpkaaT8
namespace Go.Proofs.Ytlmoenjggggpkaa
open Go.RowKit Go.Chz
set_option linter.unusedVariables false

set_option maxHeartbeats 800000 in
theorem rPut_chk (s : ByteArray) (part n k v : Int) (w : World) (hs : s.size ≤ 1048577) (hc : (chk s.size part n != 0) = true) :
    Calls Try.prog 11 #[.agg #[.string s, .int .i64 part, .int .i64 n], .int .i64 k, .int .u64 v] w fun e w' => e = .returned (.tuple #[.agg #[.string ⟨#[]⟩, .int .i64 0, .int .i64 0], .int .i64 (chk s.size part n)]) ∧ Below w.heap.size w w' := by
  have hs' : s.size ≤ maxLen := by unfold maxLen; omega
  go_enter Try.func11, Try.ntmps11
  go_wp2_with (first
    | (go_at_call 13; refine (rcheck_any s part n _ hs').mono ?_; rintro e w1 ⟨rfl, hb1⟩; have hz1 := hb1.size; have hR := (Blk.new' (w := w.alloc (.cells #[.string s, .int .i64 part, .int .i64 n] 23)) (H := w.heap.size + 1) (by simp) 23 [.string ⟨#[]⟩, .int .i64 0, .int .i64 0]).belowS hb1; have hw1 : Below w.heap.size w w1 := Below.trans (by go_grown) (hb1.mono (by simp; omega)); have r0 := hR.cell 0 rfl; have r1 := hR.cell 1 rfl; have r2 := hR.cell 2 rfl; have g0 := hR.frozen 0; have g1 := hR.frozen 1; have g2 := hR.frozen 2; have hRl := hR.lt))
  refine bodyPost_ret (v := .tuple #[.agg #[.string ⟨#[]⟩, .int .i64 0, .int .i64 0], .int .i64 (chk s.size part n)]) (results_2 rfl (res_cell (t := 23) (cs := [.string ⟨#[]⟩, .int .i64 0, .int .i64 0]) rfl (((hR.set 0 _).set 1 _).set 2 _) Try.underlying23 rfl (by kernel_rfl)) rfl) rfl ⟨rfl, ?_⟩
  go_grown

set_option maxHeartbeats 800000 in
theorem rPut_lo (s : ByteArray) (part n k v : Int) (w : World) (hs : s.size ≤ 1048577) (hc : chk s.size part n = 0) (hk : k < 0) :
    Calls Try.prog 11 #[.agg #[.string s, .int .i64 part, .int .i64 n], .int .i64 k, .int .u64 v] w fun e w' => e = .returned (.tuple #[.agg #[.string ⟨#[]⟩, .int .i64 0, .int .i64 0], .int .i64 2]) ∧ Below w.heap.size w w' := by
  have hs' : s.size ≤ maxLen := by unfold maxLen; omega
  go_enter Try.func11, Try.ntmps11
  go_wp2_with (first
    | (go_at_call 13; refine (rcheck_any s part n _ hs').mono ?_; rintro e w1 ⟨rfl, hb1⟩; have hz1 := hb1.size; have hR := (Blk.new' (w := w.alloc (.cells #[.string s, .int .i64 part, .int .i64 n] 23)) (H := w.heap.size + 1) (by simp) 23 [.string ⟨#[]⟩, .int .i64 0, .int .i64 0]).belowS hb1; have hw1 : Below w.heap.size w w1 := Below.trans (by go_grown) (hb1.mono (by simp; omega)); have r0 := hR.cell 0 rfl; have r1 := hR.cell 1 rfl; have r2 := hR.cell 2 rfl; have g0 := hR.frozen 0; have g1 := hR.frozen 1; have g2 := hR.frozen 2; have hRl := hR.lt))
  refine bodyPost_ret (v := .tuple #[.agg #[.string ⟨#[]⟩, .int .i64 0, .int .i64 0], .int .i64 2]) (results_2 rfl (res_cell (t := 23) (cs := [.string ⟨#[]⟩, .int .i64 0, .int .i64 0]) rfl (((hR.set 0 _).set 1 _).set 2 _) Try.underlying23 rfl (by kernel_rfl)) rfl) rfl ⟨rfl, ?_⟩
  go_grown

set_option maxHeartbeats 800000 in
theorem rPut_hi (s : ByteArray) (part n k v : Int) (w : World) (hs : s.size ≤ 1048577) (hc : chk s.size part n = 0) (hk : 32 < k) :
    Calls Try.prog 11 #[.agg #[.string s, .int .i64 part, .int .i64 n], .int .i64 k, .int .u64 v] w fun e w' => e = .returned (.tuple #[.agg #[.string ⟨#[]⟩, .int .i64 0, .int .i64 0], .int .i64 2]) ∧ Below w.heap.size w w' := by
  have hs' : s.size ≤ maxLen := by unfold maxLen; omega
  go_enter Try.func11, Try.ntmps11
  go_wp2_with (first
    | (go_at_call 13; refine (rcheck_any s part n _ hs').mono ?_; rintro e w1 ⟨rfl, hb1⟩; have hz1 := hb1.size; have hR := (Blk.new' (w := w.alloc (.cells #[.string s, .int .i64 part, .int .i64 n] 23)) (H := w.heap.size + 1) (by simp) 23 [.string ⟨#[]⟩, .int .i64 0, .int .i64 0]).belowS hb1; have hw1 : Below w.heap.size w w1 := Below.trans (by go_grown) (hb1.mono (by simp; omega)); have r0 := hR.cell 0 rfl; have r1 := hR.cell 1 rfl; have r2 := hR.cell 2 rfl; have g0 := hR.frozen 0; have g1 := hR.frozen 1; have g2 := hR.frozen 2; have hRl := hR.lt))
  refine bodyPost_ret (v := .tuple #[.agg #[.string ⟨#[]⟩, .int .i64 0, .int .i64 0], .int .i64 2]) (results_2 rfl (res_cell (t := 23) (cs := [.string ⟨#[]⟩, .int .i64 0, .int .i64 0]) rfl (((hR.set 0 _).set 1 _).set 2 _) Try.underlying23 rfl (by kernel_rfl)) rfl) rfl ⟨rfl, ?_⟩
  go_grown

set_option maxHeartbeats 800000 in
theorem rPut_val (s : ByteArray) (part n k v : Int) (w : World) (hs : s.size ≤ 1048577) (hc : chk s.size part n = 0) (hk0 : 0 ≤ k) (hk : k ≤ 32) (hv : IntKind.u64.wrap (2 ^ k.toNat) ≤ v) :
    Calls Try.prog 11 #[.agg #[.string s, .int .i64 part, .int .i64 n], .int .i64 k, .int .u64 v] w fun e w' => e = .returned (.tuple #[.agg #[.string ⟨#[]⟩, .int .i64 0, .int .i64 0], .int .i64 2]) ∧ Below w.heap.size w w' := by
  have hs' : s.size ≤ maxLen := by unfold maxLen; omega
  go_enter Try.func11, Try.ntmps11
  go_wp2_with (first
    | (go_at_call 13; refine (rcheck_any s part n _ hs').mono ?_; rintro e w1 ⟨rfl, hb1⟩; have hz1 := hb1.size; have hR := (Blk.new' (w := w.alloc (.cells #[.string s, .int .i64 part, .int .i64 n] 23)) (H := w.heap.size + 1) (by simp) 23 [.string ⟨#[]⟩, .int .i64 0, .int .i64 0]).belowS hb1; have hw1 : Below w.heap.size w w1 := Below.trans (by go_grown) (hb1.mono (by simp; omega)); have r0 := hR.cell 0 rfl; have r1 := hR.cell 1 rfl; have r2 := hR.cell 2 rfl; have g0 := hR.frozen 0; have g1 := hR.frozen 1; have g2 := hR.frozen 2; have hRl := hR.lt))
  refine bodyPost_ret (v := .tuple #[.agg #[.string ⟨#[]⟩, .int .i64 0, .int .i64 0], .int .i64 2]) (results_2 rfl (res_cell (t := 23) (cs := [.string ⟨#[]⟩, .int .i64 0, .int .i64 0]) rfl (((hR.set 0 _).set 1 _).set 2 _) Try.underlying23 rfl (by kernel_rfl)) rfl) rfl ⟨rfl, ?_⟩
  go_grown

/-- What both packages' Put returns. -/
def putV (s : ByteArray) (part n k v : Int) : Value :=
  if putE s.size part n k v = 0 then .tuple #[.agg #[.string ⟨(s.data.toList ++ emit (part.toNat + v.toNat * 2 ^ n.toNat) ((n + k).toNat / 8)).toArray⟩, .int .i64 (((part.toNat + v.toNat * 2 ^ n.toNat) / 256 ^ ((n + k).toNat / 8) : Nat) : Int), .int .i64 ((n + k) % 8)], .int .i64 0]
  else .tuple #[.agg #[.string ⟨#[]⟩, .int .i64 0, .int .i64 0], .int .i64 (putE s.size part n k v)]

theorem Put_all (s : ByteArray) (part n k v : Int) (w : World) (hs : s.size ≤ 1048577) (hv : 0 ≤ v) :
    Calls Try.prog 10 #[.agg #[.string s, .int .i64 part, .int .i64 n], .int .i64 k, .int .u64 v] w fun e w' => e = .returned (putV s part n k v) ∧ Below w.heap.size w w' := by
  by_cases h : putE s.size part n k v = 0
  · rw [putV, if_pos h]; exact Put_ok s part n k v w hs hv h
  · rw [putV, if_neg h]
    by_cases h1 : k < 0
    · exact Put_lo s part n k v w hs h1
    · by_cases h2 : 32 < k
      · exact Put_hi s part n k v w hs h2
      · exact Put_mid s part n k v w hs (by omega) (by omega) (by simpa using h)

theorem firstNZ_chk {a b c : Int} (h : a ≠ 0) : firstNZ [a, b, c] = a := by simp [firstNZ, h]
theorem firstNZ_two {b c : Int} (h : b ≠ 0) : firstNZ [0, b, c] = b := by simp [firstNZ, h]
theorem firstNZ_thr {c : Int} : firstNZ [0, 0, c] = c := by
  by_cases h : c = 0 <;> simp [firstNZ, h]

theorem chk_ok {len : Nat} {part n : Int} (h : chk len part n = 0) : 0 ≤ n ∧ n ≤ 7 ∧ 0 ≤ part ∧ part < 2 ^ n.toNat ∧ len ≤ 1048576 := by
  unfold chk at h; split at h
  · cases h
  · omega

theorem rPut_all (s : ByteArray) (part n k v : Int) (w : World) (hs : s.size ≤ 1048577) (hv : 0 ≤ v) :
    Calls Try.prog 11 #[.agg #[.string s, .int .i64 part, .int .i64 n], .int .i64 k, .int .u64 v] w fun e w' => e = .returned (putV s part n k v) ∧ Below w.heap.size w w' := by
  by_cases hc : chk s.size part n = 0
  · by_cases h1 : k < 0
    · have e : putE s.size part n k v = 2 := by
        rw [putE, hc, rngB, decide_eq_true (.inl h1)]; exact firstNZ_two (by decide)
      rw [putV, if_neg (by rw [e]; decide), e]
      exact rPut_lo s part n k v w hs hc h1
    · by_cases h2 : 32 < k
      · have e : putE s.size part n k v = 2 := by
          rw [putE, hc, rngB, decide_eq_true (.inr (.inl h2))]; exact firstNZ_two (by decide)
        rw [putV, if_neg (by rw [e]; decide), e]
        exact rPut_hi s part n k v w hs hc h2
      · obtain ⟨hn0, hn1, hp0, hp1, hl0⟩ := chk_ok hc
        obtain ⟨p, rfl⟩ := Int.eq_ofNat_of_zero_le hp0
        obtain ⟨V, rfl⟩ := Int.eq_ofNat_of_zero_le hv
        obtain ⟨N, rfl⟩ := Int.eq_ofNat_of_zero_le hn0
        obtain ⟨K, rfl⟩ := Int.eq_ofNat_of_zero_le (show 0 ≤ k by omega)
        simp only [Int.toNat_natCast] at hp1
        have hK : K ≤ 32 := by omega
        have ep : ∀ m : Nat, (2 : Int) ^ m = ((2 ^ m : Nat) : Int) := by intro m; simp
        rw [ep] at hp1
        by_cases h3 : V < 2 ^ K
        · have e0 : (V : Int) / 2 ^ K = 0 := by
            rw [ep]; exact_mod_cast Nat.div_eq_of_lt h3
          have er : rngB K V = false := by
            rw [rngB, Int.toNat_natCast]; apply decide_eq_false; omega
          have el : lngB s.size N K = decide (1048576 < s.size + (N + K) / 8) := by
            unfold lngB
            rw [IntWalk.wrap64_in ((N : Int) + K) ⟨by omega, by omega⟩, Int.tdiv_eq_ediv_of_nonneg (show (0 : Int) ≤ (N : Int) + K by omega), IntWalk.wrap64_in (((N : Int) + K) / 8) ⟨by omega, by omega⟩, IntWalk.wrap64_in _ ⟨by omega, by omega⟩]
            rw [Bool.eq_iff_iff]; simp; omega
          have e : putE s.size p N K V = if s.size + (N + K) / 8 ≤ 1048576 then 0 else 4 := by
            rw [putE, hc, er, el]; show firstNZ [0, 0, _] = _
            rw [firstNZ_thr, ifB]; by_cases hh : s.size + (N + K) / 8 ≤ 1048576
            · rw [if_pos hh, decide_eq_false (by omega)]; rfl
            · rw [if_neg hh, decide_eq_true (by omega)]; rfl
          refine (rPut_round s p N K V (p + V * 2 ^ N) w hs (by omega) (by omega) hl0 hK h3 rfl).mono ?_
          rintro x w' ⟨rfl, hb⟩
          refine ⟨congrArg _ ?_, hb⟩
          by_cases hh : s.size + (N + K) / 8 ≤ 1048576
          · rw [if_pos hh, putV, if_pos (e.trans (if_pos hh))]; simp only [Int.toNat_natCast]; rfl
          · have e4 := e.trans (if_neg hh)
            rw [if_neg hh, putV, e4]; rfl
        · have e0 : (V : Int) / 2 ^ K ≠ 0 := by
            rw [ep]; have := Nat.div_pos (Nat.le_of_not_lt h3) (Nat.pow_pos (by omega : 0 < 2)); exact_mod_cast (by omega)
          have e : putE s.size p N K V = 2 := by
            rw [putE, hc, rngB, decide_eq_true (.inr (.inr (by rw [Int.toNat_natCast]; exact e0)))]; exact firstNZ_two (by decide)
          rw [putV, if_neg (by rw [e]; decide), e]
          refine rPut_val s p N K V w hs hc (by omega) (by omega) ?_
          rw [Int.toNat_natCast, u64pow K hK]
          exact_mod_cast Nat.le_of_not_lt h3
  · have e : putE s.size part n k v = chk s.size part n := by rw [putE]; exact firstNZ_chk hc
    rw [putV, if_neg (by rw [e]; exact hc), e]
    exact rPut_chk s part n k v w hs (by simpa using hc)
end Go.Proofs.Ytlmoenjggggpkaa
