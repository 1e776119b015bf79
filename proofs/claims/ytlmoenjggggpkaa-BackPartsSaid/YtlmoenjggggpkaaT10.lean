import Derived.Test.YtlmoenjggggpkaaT9
namespace Go.Proofs.Ytlmoenjggggpkaa
open Go.RowKit Go.Chz
set_option linter.unusedVariables false

def doneE (len : Nat) (part n : Int) : Int := firstNZ [chk len part n, ifB (decide (1048576 < (len : Int) + 1)) 4]
def doneS (s : ByteArray) (part n : Int) : ByteArray := if doneE s.size part n = 0 then ⟨(s.data.toList ++ [UInt8.ofNat (part.toNat + 2 ^ n.toNat)]).toArray⟩ else ⟨#[]⟩
theorem doneE_zero {len : Nat} {part n : Int} (h : doneE len part n = 0) : 0 ≤ n ∧ n ≤ 7 ∧ 0 ≤ part ∧ part < 2 ^ n.toNat ∧ len < 1048576 := by
  unfold doneE at h
  have h1 : chk len part n = 0 := by
    simp only [firstNZ] at h; split at h <;> first | assumption | omega
  have h2 : ifB (decide (1048576 < (len : Int) + 1)) 4 = 0 := by
    rw [h1] at h; simp only [firstNZ] at h; revert h; by_cases hz : ifB (decide (1048576 < (len : Int) + 1)) 4 = 0
    · intro _; exact hz
    · simp [hz]
  obtain ⟨a, b, c, d, e⟩ := chk_ok h1
  refine ⟨a, b, c, d, ?_⟩
  unfold ifB at h2
  split at h2
  · cases h2
  · rename_i hh; simp at hh; omega

set_option maxHeartbeats 800000 in
theorem Done_bad (s : ByteArray) (part n : Int) (w : World) (hs : s.size ≤ 1048577) (hE : (doneE s.size part n != 0) = true) :
    Calls Try.prog 14 #[.agg #[.string s, .int .i64 part, .int .i64 n]] w fun e w' => e = .returned (.tuple #[.string ⟨#[]⟩, .int .i64 (doneE s.size part n)]) ∧ Below w.heap.size w w' := by
  have hs' : s.size ≤ maxLen := by unfold maxLen; omega
  have hP : firstNZ [chk s.size part n, ifB (decide (1048576 < (s.size : Int) + 1)) 4] = doneE s.size part n := rfl
  go_enter Try.func14, Try.ntmps14
  go_wp2
  refine abs (R := fun W => Code.wp _ _ _ _ W) (fun W => Below w.heap.size w W ∧ Blk W w.heap.size 23 [.string s, .int .i64 part, .int .i64 n])
    ⟨by go_grown, Blk.new _ _ _⟩ ?_
  rintro w0 ⟨hw0, hA⟩
  have a0 := hA.cell 0 rfl
  have a1 := hA.cell 1 rfl
  have a2 := hA.cell 2 rfl
  have al := hA.lt
  refine wp_region_B
    [(0, true), (2, true), (3, true), (4, true), (5, true), (6, true), (1, false), (7, false), (8, false), (9, false), (10, true)]
    (by kernel_rfl) (by kernel_rfl) (fun c a d v w h => by cases d <;> exact h) (fun hS1 => ?_)
  repeat (first
    | (refine wpS_nil ?_)
    | (refine wpS_skip (o := ⟨_, _, _, _, _, _⟩) rfl ?_ ?_; (focus rfl); simp only [Act.put, List.setIfInBounds_toArray, List.set_cons_zero, List.set_cons_succ])
    | (refine wpS_lightB (o := ⟨_, _, _, _, _, _⟩) (v := ?_) rfl ?_ (fun w' hS' => ?_) ?_; rotate_left; (focus rfl); (focus (go_simp; try with_reducible rfl)); simp only [Act.put, List.setIfInBounds_toArray, List.set_cons_zero, List.set_cons_succ])
    | (refine wpS_heavyB hS1 (o := ⟨_, _, _, _, _, _⟩) rfl ?_ (fun K hK => ?_); (focus rfl)
       go_wp2_with (first
         | (go_at_call 12; refine (check_any s part n _ hs').mono ?_; rintro e w1 ⟨rfl, hb1⟩)
         | (go_at_call 36; refine (when_any _ _ _).mono ?_; rintro e w1 ⟨rfl, rfl⟩)
         | (go_at_call 35; refine (first2 _ _ _ _ _ (Blk.new' rfl _ _)).mono ?_; rintro e w1 ⟨rfl, rfl⟩))
       refine ⟨?_, fun hS1 => ?_⟩
       · first | exact Below.refl _ _ | exact hb1 | exact (Below.refl _ _).alloc (Nat.le_refl _) _)
    | (refine wpS_hskip hS1 (o := ⟨_, _, _, _, _, _⟩) rfl ?_ ?_; (focus rfl); simp only [Act.put, List.setIfInBounds_toArray, List.set_cons_zero, List.set_cons_succ]))
  refine abs (R := fun W => Exit.then _ _ _ _ W) (fun W => Below w.heap.size w W ∧ Blk W w.heap.size 23 [.string s, .int .i64 part, .int .i64 n])
    ⟨hw0.trans (hS1.mono hw0.size), hA.belowS hS1⟩ ?_
  rintro w2 ⟨hw2, hA2⟩
  go_wp2
  go_ret2
  exact ⟨rfl, hw2⟩

set_option maxHeartbeats 800000 in
theorem Done_ok (s : ByteArray) (part n : Int) (w : World) (hs : s.size ≤ 1048577) (hE : doneE s.size part n = 0) :
    Calls Try.prog 14 #[.agg #[.string s, .int .i64 part, .int .i64 n]] w fun e w' => e = .returned (.tuple #[.string ⟨(s.data.toList ++ [UInt8.ofNat (part.toNat + 2 ^ n.toNat)]).toArray⟩, .int .i64 0]) ∧ Below w.heap.size w w' := by
  have hs' : s.size ≤ maxLen := by unfold maxLen; omega
  obtain ⟨hn0, hn1, hp0, hp1, hl0⟩ := doneE_zero hE
  have hP : firstNZ [chk s.size part n, ifB (decide (1048576 < (s.size : Int) + 1)) 4] = 0 := hE
  have hT := orT part 1 n (8 - n) hp0 hp1 hn0 hn1 (by omega) (by omega) (by omega) (by
    have := pow_le_of (show 1 ≤ (8 - n).toNat by omega)
    have h : (2 : Int) ^ (8 - n).toNat = ((2 ^ (8 - n).toNat : Nat) : Int) := by simp
    omega)
  obtain ⟨T, eT⟩ : ∃ T, T = part.toNat + 2 ^ n.toNat := ⟨_, rfl⟩
  rw [show (1 : Int).toNat * 2 ^ n.toNat = 2 ^ n.toNat by simp, ← eT] at hT
  rw [← eT]
  clear eT
  have hp2 : part < 256 := by
    have := pow_le_of (show n.toNat ≤ 7 by omega)
    have h : (2 : Int) ^ n.toNat = ((2 ^ n.toNat : Nat) : Int) := by simp
    omega
  have HT := Lib.hid hT
  clear hT hp1
  go_enter Try.func14, Try.ntmps14
  go_wp2
  refine abs (R := fun W => Code.wp _ _ _ _ W) (fun W => Below w.heap.size w W ∧ Blk W w.heap.size 23 [.string s, .int .i64 part, .int .i64 n])
    ⟨by go_grown, Blk.new _ _ _⟩ ?_
  rintro w0 ⟨hw0, hA⟩
  have a0 := hA.cell 0 rfl
  have a1 := hA.cell 1 rfl
  have a2 := hA.cell 2 rfl
  have al := hA.lt
  refine wp_region_B
    [(0, true), (2, true), (3, true), (4, true), (5, true), (6, true), (1, false), (7, false), (8, false), (9, false), (10, true)]
    (by kernel_rfl) (by kernel_rfl) (fun c a d v w h => by cases d <;> exact h) (fun hS1 => ?_)
  repeat (first
    | (refine wpS_nil ?_)
    | (refine wpS_skip (o := ⟨_, _, _, _, _, _⟩) rfl ?_ ?_; (focus rfl); simp only [Act.put, List.setIfInBounds_toArray, List.set_cons_zero, List.set_cons_succ])
    | (refine wpS_lightB (o := ⟨_, _, _, _, _, _⟩) (v := ?_) rfl ?_ (fun w' hS' => ?_) ?_; rotate_left; (focus rfl); (focus (go_simp; try with_reducible rfl)); simp only [Act.put, List.setIfInBounds_toArray, List.set_cons_zero, List.set_cons_succ])
    | (refine wpS_heavyB hS1 (o := ⟨_, _, _, _, _, _⟩) rfl ?_ (fun K hK => ?_); (focus rfl)
       go_wp2_with (first
         | (go_at_call 12; refine (check_any s part n _ hs').mono ?_; rintro e w1 ⟨rfl, hb1⟩)
         | (go_at_call 36; refine (when_any _ _ _).mono ?_; rintro e w1 ⟨rfl, rfl⟩)
         | (go_at_call 35; refine (first2 _ _ _ _ _ (Blk.new' rfl _ _)).mono ?_; rintro e w1 ⟨rfl, rfl⟩))
       refine ⟨?_, fun hS1 => ?_⟩
       · first | exact Below.refl _ _ | exact hb1 | exact (Below.refl _ _).alloc (Nat.le_refl _) _)
    | (refine wpS_hskip hS1 (o := ⟨_, _, _, _, _, _⟩) rfl ?_ ?_; (focus rfl); simp only [Act.put, List.setIfInBounds_toArray, List.set_cons_zero, List.set_cons_succ]))
  refine abs (R := fun W => Exit.then _ _ _ _ W) (fun W => Below w.heap.size w W ∧ Blk W w.heap.size 23 [.string s, .int .i64 part, .int .i64 n])
    ⟨hw0.trans (hS1.mono hw0.size), hA.belowS hS1⟩ ?_
  rintro w2 ⟨hw2, hA2⟩
  have d0 := hA2.cell 0 rfl
  have d1 := hA2.cell 1 rfl
  have d2 := hA2.cell 2 rfl
  have dl := hA2.lt
  go_wp2_with (first
    | (go_at_call 37; refine (opened_any s part n _ hp0 hp2).mono ?_; rintro e w3 ⟨rfl, rfl⟩))
  refine (put_any s part n (8 - n) 1 T (w2.heap.size + 1) (w2.heap.size + 2) 1 _ (by omega) hp0 hp2 hn0 hn1 (by omega) (by omega) HT.out ?_ ?_).mono ?_
  · exact (Blk.new' (by simp) _ _).alloc _
  · exact Blk.new' (by simp) _ _
  rintro e w4 ⟨rfl, hg4, hB4⟩
  have hb4 : Below w2.heap.size w2 w4 := Below.grown (by go_grown) hg4 (by simp; omega) (fun g h => by cases h; omega)
  have hw4 := hw2.trans (hb4.mono hw2.size)
  rw [show n + (8 - n) = 8 by omega, show (8 : Int).toNat / 8 = 1 by decide] at hB4
  have x0 := hB4.cell 0 rfl
  clear hg4 hb4
  go_wp2
  go_ret2
  refine ⟨?_, hw4⟩
  simp [emit]

theorem Done_all (s : ByteArray) (part n : Int) (w : World) (hs : s.size ≤ 1048577) :
    Calls Try.prog 14 #[.agg #[.string s, .int .i64 part, .int .i64 n]] w fun e w' => e = .returned (.tuple #[.string (doneS s part n), .int .i64 (doneE s.size part n)]) ∧ Below w.heap.size w w' := by
  by_cases h : doneE s.size part n = 0
  · rw [doneS, if_pos h, h]; exact Done_ok s part n w hs h
  · rw [doneS, if_neg h]; exact Done_bad s part n w hs (by simpa using h)

set_option maxHeartbeats 800000 in
theorem rDone_chk (s : ByteArray) (part n : Int) (w : World) (hs : s.size ≤ 1048577) (hc : (chk s.size part n != 0) = true) :
    Calls Try.prog 15 #[.agg #[.string s, .int .i64 part, .int .i64 n]] w fun e w' => e = .returned (.tuple #[.string ⟨#[]⟩, .int .i64 (chk s.size part n)]) ∧ Below w.heap.size w w' := by
  have hs' : s.size ≤ maxLen := by unfold maxLen; omega
  go_enter Try.func15, Try.ntmps15
  go_wp2_with (first
    | (go_at_call 13; refine (rcheck_any s part n _ hs').mono ?_; rintro e w1 ⟨rfl, hb1⟩; have hz1 := hb1.size; have hw1 : Below w.heap.size w w1 := Below.trans (by go_grown) (hb1.mono (by simp))))
  go_ret2
  exact ⟨rfl, hw1⟩

set_option maxHeartbeats 800000 in
theorem rDone_long (s : ByteArray) (part n : Int) (w : World) (hs : s.size ≤ 1048577) (hc : chk s.size part n = 0) (hl : ((s.size : Int) == 1048576) = true) :
    Calls Try.prog 15 #[.agg #[.string s, .int .i64 part, .int .i64 n]] w fun e w' => e = .returned (.tuple #[.string ⟨#[]⟩, .int .i64 4]) ∧ Below w.heap.size w w' := by
  have hs' : s.size ≤ maxLen := by unfold maxLen; omega
  go_enter Try.func15, Try.ntmps15
  go_wp2_with (first
    | (go_at_call 13; refine (rcheck_any s part n _ hs').mono ?_; rintro e w1 ⟨rfl, hb1⟩; have hA := (Blk.new w 23 [.string s, .int .i64 part, .int .i64 n]).belowS hb1; have a0 := hA.cell 0 rfl; have a1 := hA.cell 1 rfl; have a2 := hA.cell 2 rfl; have al := hA.lt; have hw1 : Below w.heap.size w w1 := Below.trans (by go_grown) (hb1.mono (by simp))))
  go_ret2
  exact ⟨rfl, hw1⟩

set_option maxHeartbeats 800000 in
theorem rDone_ok (s : ByteArray) (p N : Nat) (B : UInt8) (w : World) (hs : s.size ≤ 1048577) (hc : chk s.size p N = 0) (hl : s.size < 1048576) (hN : N ≤ 7) (hp : p < 256) (hB : B = UInt8.ofNat (p + 2 ^ N)) :
    Calls Try.prog 15 #[.agg #[.string s, .int .i64 p, .int .i64 N]] w fun e w' => e = .returned (.tuple #[.string ⟨(s.data.toList ++ [B]).toArray⟩, .int .i64 0]) ∧ Below w.heap.size w w' := by
  have hs' : s.size ≤ maxLen := by unfold maxLen; omega
  obtain ⟨D, hD⟩ : ∃ D : Nat, (2 : Int) ^ N = (D : Int) := ⟨2 ^ N, by simp⟩
  have hD1 : D = 2 ^ N := by have : (D : Int) = ((2 ^ N : Nat) : Int) := by rw [← hD]; simp
                             omega
  have hD128 : D ≤ 128 := by have := pow_le_of (show N ≤ 7 by omega); omega
  rw [← hD1] at hB
  have hBn : IntKind.u8.wrap ((p : Int) + D) = (B.toNat : Int) := by rw [hB]; exact u8_ofNat (p + D)
  clear hB hD1
  go_enter Try.func15, Try.ntmps15
  go_wp2_with (first
    | (go_at_call 13; refine (rcheck_any s p N _ hs').mono ?_; rintro e w1 ⟨rfl, hb1⟩; have hA := (Blk.new w 23 [.string s, .int .i64 p, .int .i64 N]).belowS hb1; have a0 := hA.cell 0 rfl; have a1 := hA.cell 1 rfl; have a2 := hA.cell 2 rfl; have al := hA.lt; have hw1 : Below w.heap.size w w1 := Below.trans (by go_grown) (hb1.mono (by simp)))
    | (with_reducible refine wpList_string_O (o := ⟨some 25, _, _, _, _, _⟩) rfl 42 9 (.tmp 24) rfl 5 _ _ _ [B] rfl Try.underlying42 Try.underlying5 Try.underlying9 rfl ?_ ?_))
  · refine newb _ _ B rfl _ _ ?_; simp
  go_wp2
  go_ret2
  refine ⟨?_, ?_⟩
  · exact congrArg (fun x => Ending.returned (Value.tuple #[Value.string x, Value.int .i64 0])) (str_ext s s [] B (by simp))
  · go_grown

theorem rDone_all (s : ByteArray) (part n : Int) (w : World) (hs : s.size ≤ 1048577) :
    Calls Try.prog 15 #[.agg #[.string s, .int .i64 part, .int .i64 n]] w fun e w' => e = .returned (.tuple #[.string (doneS s part n), .int .i64 (doneE s.size part n)]) ∧ Below w.heap.size w w' := by
  by_cases hc : chk s.size part n = 0
  · by_cases hl : s.size = 1048576
    · have e : doneE s.size part n = 4 := by rw [doneE, hc, hl]; rfl
      rw [doneS, if_neg (by rw [e]; decide), e]
      exact rDone_long s part n w hs hc (by rw [hl]; rfl)
    · obtain ⟨hn0, hn1, hp0, hp1, hl0⟩ := chk_ok hc
      have e : doneE s.size part n = 0 := by
        rw [doneE, hc, decide_eq_false (by omega)]; rfl
      rw [doneS, if_pos e, e]
      obtain ⟨p, rfl⟩ := Int.eq_ofNat_of_zero_le hp0
      obtain ⟨N, rfl⟩ := Int.eq_ofNat_of_zero_le hn0
      have hp2 : p < 256 := by
        have h1 := pow_le_of (show N ≤ 7 by omega)
        have h : (2 : Int) ^ (N : Int).toNat = ((2 ^ N : Nat) : Int) := by simp
        omega
      exact rDone_ok s p N _ w hs hc (by omega) (by omega) hp2 rfl
  · have hc' : (chk s.size part n != 0) = true := by simpa using hc
    have e : doneE s.size part n = chk s.size part n := by rw [doneE]; simp [firstNZ, hc]
    rw [doneS, if_neg (by rw [e]; exact hc), e]
    exact rDone_chk s part n w hs hc'

end Go.Proofs.Ytlmoenjggggpkaa
