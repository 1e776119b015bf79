import Derived.Test.YtlmoenjggggpkaaT6
namespace Go.Proofs.Ytlmoenjggggpkaa
open Go.RowKit Go.Chz
set_option linter.unusedVariables false

theorem and63 (n : Int) (h0 : 0 ≤ n) (h1 : n ≤ 32) : bits BinOp.and IntKind.i64 n 63 = n := by
  obtain ⟨m, rfl⟩ := Int.eq_ofNat_of_zero_le h0
  have h : ∀ m : Nat, m < 33 → bits BinOp.and IntKind.i64 (m : Int) 63 = m := by decide +kernel
  exact h m (by omega)

theorem putE_mid (len : Nat) (part n k v : Int) (h0 : 0 ≤ k) (h1 : k ≤ 32) : firstNZ [chk len part n, ifB (v / 2 ^ min k.toNat 64 != 0) 2, ifB (decide (1048576 < wrap64 ((len : Int) + wrap64 ((wrap64 (n + k)).tdiv 8)))) 4] = putE len part n k v := by
  have e : min k.toNat 64 = k.toNat := by omega
  have e2 : (v / 2 ^ k.toNat != 0) = decide (k < 0 ∨ 32 < k ∨ v / 2 ^ k.toNat ≠ 0) := by
    rw [Bool.eq_iff_iff]; simp; omega
  rw [e, e2]; rfl

theorem firstNZ3 {a b c : Int} (h : firstNZ [a, b, c] = 0) : a = 0 ∧ b = 0 ∧ c = 0 := by
  simp only [firstNZ] at h
  by_cases ha : a = 0
  · by_cases hb : b = 0
    · by_cases hc : c = 0
      · exact ⟨ha, hb, hc⟩
      · simp [ha, hb, hc] at h
    · simp [ha, hb] at h
  · simp [ha] at h

theorem putE_zero {len : Nat} {part n k v : Int} (hl : len ≤ 1048577) (hv : 0 ≤ v) (h : putE len part n k v = 0) :
    0 ≤ k ∧ k ≤ 32 ∧ v < 2 ^ k.toNat ∧ 0 ≤ n ∧ n ≤ 7 ∧ 0 ≤ part ∧ part < 2 ^ n.toNat ∧ len ≤ 1048576 ∧ len + (n + k).toNat / 8 ≤ 1048576 := by
  obtain ⟨a, b, c⟩ := firstNZ3 h
  have hn : ¬ (n < 0 ∨ 7 < n ∨ part < 0 ∨ 2 ^ n.toNat ≤ part ∨ 1048576 < len) := by
    unfold chk at a; split at a
    · cases a
    · assumption
  have hk : ¬ (k < 0 ∨ 32 < k ∨ v / 2 ^ k.toNat ≠ 0) := by
    unfold ifB rngB at b; split at b
    · cases b
    · rename_i hh; simpa using hh
  have hlg : ¬ (1048576 < wrap64 ((len : Int) + wrap64 ((wrap64 (n + k)).tdiv 8))) := by
    unfold ifB lngB at c; split at c
    · cases c
    · rename_i hh; simpa using hh
  simp only [not_or, Int.not_lt, Int.not_le, Decidable.not_not] at hn hk
  have e1 : wrap64 (n + k) = n + k := IntWalk.wrap64_in _ ⟨by omega, by omega⟩
  have e2 : (n + k).tdiv 8 = (n + k) / 8 := Int.tdiv_eq_ediv_of_nonneg (by omega)
  rw [e1, e2, IntWalk.wrap64_in ((n + k) / 8) ⟨by omega, by omega⟩, IntWalk.wrap64_in _ ⟨by omega, by omega⟩] at hlg
  have hvlt : v < 2 ^ k.toNat := by
    have hp : (0 : Int) < 2 ^ k.toNat := Int.pow_pos (by omega)
    have := Int.lt_mul_of_ediv_lt hp (show v / 2 ^ k.toNat < 1 by omega)
    omega
  omega

theorem pow_le_of {n m : Nat} (h : n ≤ m) : (2 : Nat) ^ n ≤ 2 ^ m := Nat.pow_le_pow_right (by omega) h

theorem orT_lt (part v n k : Int) (h0 : 0 ≤ part) (h1 : part < 2 ^ n.toNat) (hn : 0 ≤ n) (hn7 : n ≤ 7) (hk : 0 ≤ k) (hk1 : k ≤ 32) (hv : 0 ≤ v) (hv1 : v < 2 ^ k.toNat) : part.toNat + v.toNat * 2 ^ n.toNat < 1099511627776 := by
  obtain ⟨p, rfl⟩ := Int.eq_ofNat_of_zero_le h0
  obtain ⟨V, rfl⟩ := Int.eq_ofNat_of_zero_le hv
  obtain ⟨N, rfl⟩ := Int.eq_ofNat_of_zero_le hn
  obtain ⟨K, rfl⟩ := Int.eq_ofNat_of_zero_le hk
  simp only [Int.toNat_natCast] at *
  have hp : p < 2 ^ N := by exact_mod_cast h1
  have hV : V < 2 ^ K := by exact_mod_cast hv1
  have a1 := pow_le_of (show N ≤ 7 by omega)
  have a2 := pow_le_of (show K ≤ 32 by omega)
  have hm : V * 2 ^ N < 2 ^ 39 := by
    calc V * 2 ^ N < 2 ^ K * 2 ^ N := by exact Nat.mul_lt_mul_of_pos_right hV (Nat.pow_pos (by omega))
      _ ≤ 2 ^ 32 * 2 ^ 7 := Nat.mul_le_mul a2 a1
  omega

theorem orT (part v n k : Int) (h0 : 0 ≤ part) (h1 : part < 2 ^ n.toNat) (hn : 0 ≤ n) (hn7 : n ≤ 7) (hk : 0 ≤ k) (hk1 : k ≤ 32) (hv : 0 ≤ v) (hv1 : v < 2 ^ k.toNat) :
    bits BinOp.or IntKind.u64 part (IntKind.u64.wrap (v * 2 ^ n.toNat)) = ((part.toNat + v.toNat * 2 ^ n.toNat : Nat) : Int) := by
  obtain ⟨p, rfl⟩ := Int.eq_ofNat_of_zero_le h0
  obtain ⟨V, rfl⟩ := Int.eq_ofNat_of_zero_le hv
  obtain ⟨N, rfl⟩ := Int.eq_ofNat_of_zero_le hn
  obtain ⟨K, rfl⟩ := Int.eq_ofNat_of_zero_le hk
  simp only [Int.toNat_natCast] at *
  have hp : p < 2 ^ N := by exact_mod_cast h1
  have hV : V < 2 ^ K := by exact_mod_cast hv1
  have a1 := pow_le_of (show N ≤ 7 by omega)
  have a2 := pow_le_of (show K ≤ 32 by omega)
  have hm : V * 2 ^ N < 2 ^ 39 := by
    calc V * 2 ^ N < 2 ^ K * 2 ^ N := by exact Nat.mul_lt_mul_of_pos_right hV (Nat.pow_pos (by omega))
      _ ≤ 2 ^ 32 * 2 ^ 7 := Nat.mul_le_mul a2 a1
  have e1 : ((V : Int) * 2 ^ N) = ((V * 2 ^ N : Nat) : Int) := by simp
  rw [e1, IntWalk.u64_in _ ⟨by omega, by omega⟩, u64_or_nat p (V * 2 ^ N) (by omega) (by omega), Nat.or_comm, nat_join N (V * 2 ^ N) p (Nat.mul_mod_left _ _) hp]
  congr 1
  omega

set_option maxHeartbeats 800000 in
theorem Put_mid (s : ByteArray) (part n k v : Int) (w : World) (hs : s.size ≤ 1048577) (hk0 : 0 ≤ k) (hk1 : k ≤ 32) (hE : (putE s.size part n k v != 0) = true) :
    Calls Try.prog 10 #[.agg #[.string s, .int .i64 part, .int .i64 n], .int .i64 k, .int .u64 v] w fun e w' => e = .returned (.tuple #[.agg #[.string ⟨#[]⟩, .int .i64 0, .int .i64 0], .int .i64 (putE s.size part n k v)]) ∧ Below w.heap.size w w' := by
  have hs' : s.size ≤ maxLen := by unfold maxLen; omega
  have hkc : decide (k < 0) = false := by simpa using hk0
  have hkd : decide (32 < k) = false := by simpa using hk1
  have h63 := and63 k hk0 hk1
  have hP := putE_mid s.size part n k v hk0 hk1
  go_enter Try.func10, Try.ntmps10
  go_wp2
  refine abs (R := fun W => Code.wp _ _ _ _ W) (fun W => Below w.heap.size w W ∧ Blk W w.heap.size 23 [.string s, .int .i64 part, .int .i64 n] ∧ Blk W (w.heap.size + 1) 23 [.string ⟨#[]⟩, .int .i64 0, .int .i64 0])
    ⟨by go_grown, (Blk.new _ _ _).alloc _, Blk.new' (by simp) _ _⟩ ?_
  rintro w0 ⟨hw0, hA, hR⟩
  have a0 := hA.cell 0 rfl
  have a1 := hA.cell 1 rfl
  have a2 := hA.cell 2 rfl
  have al := hA.lt
  refine wp_region_B
    [(0, true), (2, true), (3, true), (17, true), (18, true), (19, true), (20, true), (21, true), (22, true), (23, true), (24, true), (25, true), (26, true), (1, false), (4, true), (5, true), (6, true), (7, true), (8, true), (9, true), (10, true), (11, true), (12, true), (13, true), (14, true), (15, true), (16, false), (27, false), (28, false), (29, false), (30, true)]
    (by kernel_rfl) (by kernel_rfl) (fun c a d v w h => by cases d <;> exact h) (fun hS1 => ?_)
  repeat (first
    | (refine wpS_nil ?_)
    | (refine wpS_skip (o := ⟨_, _, _, _, _, _⟩) rfl ?_ ?_; (focus rfl); simp only [Act.put, List.setIfInBounds_toArray, List.set_cons_zero, List.set_cons_succ])
    | (refine wpS_lightB (o := ⟨_, _, _, _, _, _⟩) (v := ?_) rfl ?_ (fun w' hS' => ?_) ?_; rotate_left; (focus rfl); (focus (go_simp; try with_reducible rfl)); simp only [Act.put, List.setIfInBounds_toArray, List.set_cons_zero, List.set_cons_succ])
    | (refine wpS_heavyB hS1 (o := ⟨_, _, _, _, _, _⟩) rfl ?_ (fun K hK => ?_); (focus rfl)
       go_wp2_with (first
         | (go_at_call 12; refine (check_any s part n _ hs').mono ?_; rintro e w1 ⟨rfl, hb1⟩)
         | (go_at_call 36; refine (when_any _ _ _).mono ?_; rintro e w1 ⟨rfl, rfl⟩)
         | (go_at_call 35; refine (first3 _ _ _ _ _ _ (Blk.new' rfl _ _)).mono ?_; rintro e w1 ⟨rfl, rfl⟩))
       refine ⟨?_, fun hS1 => ?_⟩
       · first | exact Below.refl _ _ | exact hb1 | exact (Below.refl _ _).alloc (Nat.le_refl _) _)
    | (refine wpS_hskip hS1 (o := ⟨_, _, _, _, _, _⟩) rfl ?_ ?_; (focus rfl); simp only [Act.put, List.setIfInBounds_toArray, List.set_cons_zero, List.set_cons_succ]))
  refine abs (R := fun W => Exit.then _ _ _ _ W) (fun W => Below w.heap.size w W ∧ Blk W w.heap.size 23 [.string s, .int .i64 part, .int .i64 n] ∧ Blk W (w.heap.size + 1) 23 [.string ⟨#[]⟩, .int .i64 0, .int .i64 0])
    ⟨hw0.trans (hS1.mono hw0.size), hA.belowS hS1, hR.belowS hS1⟩ ?_
  rintro w2 ⟨hw2, hA2, hR2⟩
  have b0 := hR2.cell 0 rfl
  have b1 := hR2.cell 1 rfl
  have b2 := hR2.cell 2 rfl
  have f0 := hR2.frozen 0
  have f1 := hR2.frozen 1
  have f2 := hR2.frozen 2
  go_wp2
  refine bodyPost_ret (v := .tuple #[.agg #[.string ⟨#[]⟩, .int .i64 0, .int .i64 0], .int .i64 _]) (results_2 rfl (res_cell (t := 23) (cs := [.string ⟨#[]⟩, .int .i64 0, .int .i64 0]) rfl (((hR2.set 0 _).set 1 _).set 2 _) Try.underlying23 rfl (by kernel_rfl)) rfl) rfl ⟨?_, ((hw2.setCell (by simp) _).setCell (by simp) _).setCell (by simp) _⟩
  rfl

set_option maxHeartbeats 1600000 in
theorem Put_ok (s : ByteArray) (part n k v : Int) (w : World) (hs : s.size ≤ 1048577) (hv : 0 ≤ v) (hE : putE s.size part n k v = 0) :
    Calls Try.prog 10 #[.agg #[.string s, .int .i64 part, .int .i64 n], .int .i64 k, .int .u64 v] w fun e w' => e = .returned (.tuple #[.agg #[.string ⟨(s.data.toList ++ emit (part.toNat + v.toNat * 2 ^ n.toNat) ((n + k).toNat / 8)).toArray⟩, .int .i64 (((part.toNat + v.toNat * 2 ^ n.toNat) / 256 ^ ((n + k).toNat / 8) : Nat) : Int), .int .i64 ((n + k) % 8)], .int .i64 0]) ∧ Below w.heap.size w w' := by
  have hs' : s.size ≤ maxLen := by unfold maxLen; omega
  obtain ⟨hk0, hk1, hv1, hn0, hn1, hp0, hp1, hl0, hl1⟩ := putE_zero hs hv hE
  have hT := orT part v n k hp0 hp1 hn0 hn1 hk0 hk1 hv hv1
  obtain ⟨T, eT⟩ : ∃ T, T = part.toNat + v.toNat * 2 ^ n.toNat := ⟨_, rfl⟩
  have hTb : T < 1099511627776 := by rw [eT]; exact orT_lt part v n k hp0 hp1 hn0 hn1 hk0 hk1 hv hv1
  rw [← eT] at hT ⊢
  clear eT
  have hp2 : part < 256 := by
    have := pow_le_of (show n.toNat ≤ 7 by omega)
    have h : (2 : Int) ^ n.toNat = ((2 ^ n.toNat : Nat) : Int) := by simp
    omega
  have HT := Lib.hid hT
  clear hT hp1 hv1
  have hkc : decide (k < 0) = false := by simpa using hk0
  have hkd : decide (32 < k) = false := by simpa using hk1
  have h63 := and63 k hk0 hk1
  have hP := putE_mid s.size part n k v hk0 hk1
  rw [hE, IntWalk.wrap64_in (n + k) ⟨by omega, by omega⟩, Int.tdiv_eq_ediv_of_nonneg (show 0 ≤ n + k by omega), IntWalk.wrap64_in ((n + k) / 8) ⟨by omega, by omega⟩, IntWalk.wrap64_in ((s.size : Int) + (n + k) / 8) ⟨by omega, by omega⟩] at hP
  go_enter Try.func10, Try.ntmps10
  go_wp2
  refine abs (R := fun W => Code.wp _ _ _ _ W) (fun W => Below w.heap.size w W ∧ Blk W w.heap.size 23 [.string s, .int .i64 part, .int .i64 n] ∧ Blk W (w.heap.size + 1) 23 [.string ⟨#[]⟩, .int .i64 0, .int .i64 0])
    ⟨by go_grown, (Blk.new _ _ _).alloc _, Blk.new' (by simp) _ _⟩ ?_
  rintro w0 ⟨hw0, hA, hR⟩
  have a0 := hA.cell 0 rfl
  have a1 := hA.cell 1 rfl
  have a2 := hA.cell 2 rfl
  have al := hA.lt
  refine wp_region_B
    [(0, true), (2, true), (3, true), (17, true), (18, true), (19, true), (20, true), (21, true), (22, true), (23, true), (24, true), (25, true), (26, true), (1, false), (4, true), (5, true), (6, true), (7, true), (8, true), (9, true), (10, true), (11, true), (12, true), (13, true), (14, true), (15, true), (16, false), (27, false), (28, false), (29, false), (30, true)]
    (by kernel_rfl) (by kernel_rfl) (fun c a d v w h => by cases d <;> exact h) (fun hS1 => ?_)
  repeat (first
    | (refine wpS_nil ?_)
    | (refine wpS_skip (o := ⟨_, _, _, _, _, _⟩) rfl ?_ ?_; (focus rfl); simp only [Act.put, List.setIfInBounds_toArray, List.set_cons_zero, List.set_cons_succ])
    | (refine wpS_lightB (o := ⟨_, _, _, _, _, _⟩) (v := ?_) rfl ?_ (fun w' hS' => ?_) ?_; rotate_left; (focus rfl); (focus (go_simp; try with_reducible rfl)); simp only [Act.put, List.setIfInBounds_toArray, List.set_cons_zero, List.set_cons_succ])
    | (refine wpS_heavyB hS1 (o := ⟨_, _, _, _, _, _⟩) rfl ?_ (fun K hK => ?_); (focus rfl)
       go_wp2_with (first
         | (go_at_call 12; refine (check_any s part n _ hs').mono ?_; rintro e w1 ⟨rfl, hb1⟩)
         | (go_at_call 36; refine (when_any _ _ _).mono ?_; rintro e w1 ⟨rfl, rfl⟩)
         | (go_at_call 35; refine (first3 _ _ _ _ _ _ (Blk.new' rfl _ _)).mono ?_; rintro e w1 ⟨rfl, rfl⟩))
       refine ⟨?_, fun hS1 => ?_⟩
       · first | exact Below.refl _ _ | exact hb1 | exact (Below.refl _ _).alloc (Nat.le_refl _) _)
    | (refine wpS_hskip hS1 (o := ⟨_, _, _, _, _, _⟩) rfl ?_ ?_; (focus rfl); simp only [Act.put, List.setIfInBounds_toArray, List.set_cons_zero, List.set_cons_succ]))
  refine abs (R := fun W => Exit.then _ _ _ _ W) (fun W => Below w.heap.size w W ∧ Blk W w.heap.size 23 [.string s, .int .i64 part, .int .i64 n] ∧ Blk W (w.heap.size + 1) 23 [.string ⟨#[]⟩, .int .i64 0, .int .i64 0])
    ⟨hw0.trans (hS1.mono hw0.size), hA.belowS hS1, hR.belowS hS1⟩ ?_
  rintro w2 ⟨hw2, hA2, hR2⟩
  have b0 := hR2.cell 0 rfl
  have b1 := hR2.cell 1 rfl
  have b2 := hR2.cell 2 rfl
  have f0 := hR2.frozen 0
  have f1 := hR2.frozen 1
  have f2 := hR2.frozen 2
  have d0 := hA2.cell 0 rfl
  have d1 := hA2.cell 1 rfl
  have d2 := hA2.cell 2 rfl
  go_wp2_with (first
    | (go_at_call 37; refine (opened_any s part n _ hp0 hp2).mono ?_; rintro e w3 ⟨rfl, rfl⟩))
  refine (put_any s part n k v T (w2.heap.size + 1) (w2.heap.size + 2) 1 _ (by omega) hp0 hp2 hn0 hn1 hk0 hk1 HT.out ?_ ?_).mono ?_
  · exact (Blk.new' (by simp) _ _).alloc _
  · exact Blk.new' (by simp) _ _
  rintro e w4 ⟨rfl, hg4, hB4⟩
  have hb4 : Below w2.heap.size w2 w4 := Below.grown (by go_grown) hg4 (by simp; omega) (fun g h => by cases h; omega)
  have hR4 := hR2.belowS hb4
  have hw4 := hw2.trans (hb4.mono hw2.size)
  have r0 := hR4.cell 0 rfl
  have r1 := hR4.cell 1 rfl
  have r2 := hR4.cell 2 rfl
  have k0 := hR4.frozen 0
  have k1 := hR4.frozen 1
  have k2 := hR4.frozen 2
  have x0 := hB4.cell 0 rfl
  have x1 := hB4.cell 1 rfl
  have x2 := hB4.cell 2 rfl
  clear hg4 hb4
  have ew : wrap64 ((T : Int) / 256 ^ ((n + k).toNat / 8)) = ((T / 256 ^ ((n + k).toNat / 8) : Nat) : Int) := by
    have h1 := Nat.div_le_self T (256 ^ ((n + k).toNat / 8))
    have h2 : (T : Int) / 256 ^ ((n + k).toNat / 8) = ((T / 256 ^ ((n + k).toNat / 8) : Nat) : Int) := by simp
    have h3 : (0 : Int) ≤ ((T / 256 ^ ((n + k).toNat / 8) : Nat) : Int) := Int.natCast_nonneg _
    rw [h2]; exact IntWalk.wrap64_in _ ⟨by omega, by omega⟩
  have EW := Lib.hid ew
  clear ew
  go_wp2
  go_region
  go_wp2
  rw [EW.out]
  refine bodyPost_ret (v := .tuple #[.agg #[.string ⟨(s.data.toList ++ emit T ((n + k).toNat / 8)).toArray⟩, .int .i64 ((T / 256 ^ ((n + k).toNat / 8) : Nat) : Int), .int .i64 ((n + k) % 8)], .int .i64 0]) (results_2 rfl (res_cell (t := 23) (cs := [.string ⟨(s.data.toList ++ emit T ((n + k).toNat / 8)).toArray⟩, .int .i64 ((T / 256 ^ ((n + k).toNat / 8) : Nat) : Int), .int .i64 ((n + k) % 8)]) rfl (((hR4.set 0 _).set 1 _).set 2 _).drew Try.underlying23 rfl (by kernel_rfl)) rfl) rfl ⟨rfl, (((hw4.setCell (by simp) _).setCell (by simp) _).setCell (by simp) _).drew⟩
end Go.Proofs.Ytlmoenjggggpkaa
