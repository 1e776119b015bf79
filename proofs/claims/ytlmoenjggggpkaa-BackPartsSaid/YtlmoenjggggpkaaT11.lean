import Derived.Test.YtlmoenjggggpkaaT10
import Derived.Shelf.Small.Bits
namespace Go.Proofs.Ytlmoenjggggpkaa
open Go.RowKit Go.Chz
set_option linter.unusedVariables false

def ren126 : Go.Shelf.Ren := ⟨fun x => if x = 126 then 43 else 0, fun x => x, fun x => x⟩
set_option maxRecDepth 1000000 in
theorem lays126 : Lays.n126 Try.prog ren126 :=
  ⟨by kernel_rfl, Try.func43, Try.underlying3, Try.isAgg3, Try.sizeOf3, Try.zeroValue3, Try.underlying5, Try.isAgg5, Try.sizeOf5, Try.zeroValue5, Try.underlying9, Try.isAgg9, Try.sizeOf9, Try.zeroValue9⟩

theorem Len8_any (x : Int) (w : World) (h0 : 0 ≤ x) (h1 : x ≤ 255) :
    Calls Try.prog 43 #[.int .u8 x] w fun e w' => e = .returned (.int .i64 (Lib.bitLen x.toNat)) ∧ w' = w := Any.bits_Len8 lays126 x w h0 h1

theorem long_any (s : ByteArray) (w : World) (hs : s.size ≤ maxLen) :
    Calls Try.prog 39 #[.agg #[.string s]] w fun e w' => e = .returned (.bool (decide (1048576 < (s.size : Int)))) ∧ Below w.heap.size w w' := by
  go_enter Try.func39, Try.ntmps39
  go_wp2
  go_ret
  exact ⟨rfl, by go_grown⟩

def sizeV (s : ByteArray) : Int := if h : 0 < s.size then if (s[s.size - 1]'(by omega)).toNat = 0 then -1 else 8 * ((s.size : Int) - 1) + (Lib.bitLen (s[s.size - 1]'(by omega)).toNat : Int) - 1 else -1

theorem size_nil (w : World) :
    Calls Try.prog 40 #[.agg #[.string ⟨#[]⟩]] w fun e w' => e = .returned (.int .i64 (-1)) ∧ Below w.heap.size w w' := by
  go_enter Try.func40, Try.ntmps40
  go_wp2
  go_ret
  exact ⟨rfl, by go_grown⟩

theorem isE (s : ByteArray) (h : 0 < s.size) : s.toList.isEmpty = false := by
  rw [ByteArray.toList_eq]; cases hl : s.data.toList with
  | nil => have h2 : s.data.toList.length = s.size := by simp
           rw [hl] at h2; simp at h2; omega
  | cons _ _ => rfl

theorem size_zero (s : ByteArray) (w : World) (hs : s.size ≤ 1048577) (h0 : 0 < s.size) (hb : ((s[s.size - 1].toNat : Int) == 0) = true) :
    Calls Try.prog 40 #[.agg #[.string s]] w fun e w' => e = .returned (.int .i64 (-1)) ∧ Below w.heap.size w w' := by
  have he := isE s h0
  have hi : 1 ≤ (s.size : Int) ∧ (s.size : Int) - 1 < s.size := by omega
  go_enter Try.func40, Try.ntmps40
  go_wp2
  go_ret
  exact ⟨rfl, by go_grown⟩

set_option maxHeartbeats 400000 in
theorem size_pos (s : ByteArray) (b : UInt8) (w : World) (hs : s.size ≤ 1048577) (h0 : 0 < s.size) (hb : s[s.size - 1] = b) (hb0 : ((b.toNat : Int) == 0) = false) :
    Calls Try.prog 40 #[.agg #[.string s]] w fun e w' => e = .returned (.int .i64 (8 * ((s.size : Int) - 1) + (Lib.bitLen b.toNat : Int) - 1)) ∧ Below w.heap.size w w' := by
  have he := isE s h0
  have hi : 1 ≤ (s.size : Int) ∧ (s.size : Int) - 1 < s.size := by omega
  have hbl := b.toNat_lt
  have hL : Lib.bitLen b.toNat ≤ 8 := by
    exact Lib.bitLen_le8 ⟨b.toNat, hbl⟩
  go_enter Try.func40, Try.ntmps40
  go_wp2
  refine abs (R := fun W => Code.wp _ _ _ _ W) (fun W => Below w.heap.size w W ∧ Blk W w.heap.size 65 [.string s])
    ⟨by go_grown, Blk.new _ _ _⟩ ?_
  rintro w0 ⟨hw0, hA⟩
  have a0 := hA.cell 0 rfl
  have al := hA.lt
  refine wp_region_B
    [(0, true), (1, true), (2, true), (3, true), (4, true), (5, true), (6, true), (7, true), (8, true), (9, true), (10, true), (11, false), (12, false), (13, true), (14, true), (15, true)]
    (by kernel_rfl) (by kernel_rfl) (fun c a d v w h => by cases d <;> exact h) (fun hS1 => ?_)
  repeat (first
    | (refine wpS_nil ?_)
    | (refine wpS_skip (o := ⟨_, _, _, _, _, _⟩) rfl ?_ ?_; (focus rfl); simp only [Act.put, List.setIfInBounds_toArray, List.set_cons_zero, List.set_cons_succ])
    | (refine wpS_lightB (o := ⟨_, _, _, _, _, _⟩) (v := ?_) rfl ?_ (fun w' hS' => ?_) ?_; rotate_left; (focus rfl); (focus (go_simp; try with_reducible rfl)); simp only [Act.put, List.setIfInBounds_toArray, List.set_cons_zero, List.set_cons_succ])
    | (refine wpS_heavyB hS1 (o := ⟨_, _, _, _, _, _⟩) rfl ?_ (fun K hK => ?_); (focus rfl)
       go_wp2_with (first
         | (go_at_call 43; refine (Len8_any _ _ (by omega) (by omega)).mono ?_; rintro e w1 ⟨rfl, rfl⟩))
       refine ⟨?_, fun hS1 => ?_⟩
       · first | exact Below.refl _ _ | exact hb1 | exact (Below.refl _ _).alloc (Nat.le_refl _) _)
    | (refine wpS_hskip hS1 (o := ⟨_, _, _, _, _, _⟩) rfl ?_ ?_; (focus rfl); simp only [Act.put, List.setIfInBounds_toArray, List.set_cons_zero, List.set_cons_succ]))

  go_wp2
  go_ret
  refine ⟨?_, hw0.trans (hS1.mono hw0.size)⟩
  go_simp
  rw [IntWalk.i64_in ((s.size : Int) - 1) ⟨by omega, by omega⟩, IntWalk.i64_in (8 * ((s.size : Int) - 1)) ⟨by omega, by omega⟩, IntWalk.i64_in (8 * ((s.size : Int) - 1) + (Lib.bitLen b.toNat : Int)) ⟨by omega, by omega⟩, IntWalk.i64_in _ ⟨by omega, by omega⟩]

theorem nil_of_size (s : ByteArray) (h : ¬ 0 < s.size) : s = ⟨#[]⟩ := by
  apply ByteArray.ext
  have : s.data.size = 0 := by show s.size = 0; omega
  exact Array.eq_empty_of_size_eq_zero this

theorem size_any (s : ByteArray) (w : World) (hs : s.size ≤ 1048577) :
    Calls Try.prog 40 #[.agg #[.string s]] w fun e w' => e = .returned (.int .i64 (sizeV s)) ∧ Below w.heap.size w w' := by
  by_cases h0 : 0 < s.size
  · by_cases hb : (s[s.size - 1]'(by omega)).toNat = 0
    · rw [sizeV, dif_pos h0, if_pos hb]; exact size_zero s w hs h0 (by rw [hb]; rfl)
    · rw [sizeV, dif_pos h0, if_neg hb]; exact size_pos s _ w hs h0 rfl (by simpa using hb)
  · rw [sizeV, dif_neg h0]
    obtain rfl := nil_of_size s h0
    exact size_nil w

def bitsE (s : ByteArray) : Int := firstNZ [ifB (decide (1048576 < (s.size : Int))) 4, ifB (decide (sizeV s < 0)) 22]
def bitsN (s : ByteArray) : Int := if bitsE s = 0 then sizeV s else 0

theorem sizeV_le (s : ByteArray) : -1 ≤ sizeV s ∧ sizeV s ≤ 8 * s.size := by
  unfold sizeV
  split
  · rename_i h; split
    · omega
    · have := Lib.bitLen_le8 ⟨(s[s.size - 1]'(by omega)).toNat, (s[s.size - 1]'(by omega)).toNat_lt⟩
      simp only at this
      omega
  · omega

set_option maxHeartbeats 800000 in
theorem Bits_bad (s : ByteArray) (w : World) (hs : s.size ≤ 1048577) (hE : (bitsE s != 0) = true) :
    Calls Try.prog 18 #[.string s] w fun e w' => e = .returned (.tuple #[.int .i64 (bitsN s), .int .i64 (bitsE s)]) ∧ Below w.heap.size w w' := by
  have hP : firstNZ [ifB (decide (1048576 < (s.size : Int))) 4, ifB (decide (sizeV s < 0)) 22] = bitsE s := rfl
  have hs' : s.size ≤ maxLen := by unfold maxLen; omega
  go_enter Try.func18, Try.ntmps18
  go_wp2
  refine abs (R := fun W => Code.wp _ _ _ _ W) (fun W => Below w.heap.size w W ∧ Blk W w.heap.size 65 [.string s])
    ⟨by go_grown, Blk.new w 65 [.string s]⟩ ?_
  rintro w0 ⟨hw0, hA⟩
  have a0 := hA.cell 0 rfl
  have al := hA.lt
  refine wp_region_B
    [(0, true), (3, true), (1, false), (2, false), (4, false), (5, true), (6, false), (7, false), (8, false), (9, true)]
    (by kernel_rfl) (by kernel_rfl) (fun c a d v w h => by cases d <;> exact h) (fun hS1 => ?_)
  repeat (first
    | (refine wpS_nil ?_)
    | (refine wpS_skip (o := ⟨_, _, _, _, _, _⟩) rfl ?_ ?_; (focus rfl); simp only [Act.put, List.setIfInBounds_toArray, List.set_cons_zero, List.set_cons_succ])
    | (refine wpS_lightB (o := ⟨_, _, _, _, _, _⟩) (v := ?_) rfl ?_ (fun w' hS' => ?_) ?_; rotate_left; (focus rfl); (focus (go_simp; try with_reducible rfl)); simp only [Act.put, List.setIfInBounds_toArray, List.set_cons_zero, List.set_cons_succ])
    | (refine wpS_heavyB hS1 (o := ⟨_, _, _, _, _, _⟩) rfl ?_ (fun K hK => ?_); (focus rfl)
       go_wp2_with (first
         | (go_at_call 39; refine (long_any s _ hs').mono ?_; rintro e w1 ⟨rfl, hb1⟩)
         | (go_at_call 40; refine (size_any s _ hs).mono ?_; rintro e w1 ⟨rfl, hb1⟩)
         | (go_at_call 36; refine (when_any _ _ _).mono ?_; rintro e w1 ⟨rfl, rfl⟩)
         | (go_at_call 35; refine (first2 _ _ _ _ _ (Blk.new' rfl _ _)).mono ?_; rintro e w1 ⟨rfl, rfl⟩))
       refine ⟨?_, fun hS1 => ?_⟩
       · first | exact Below.refl _ _ | exact hb1 | exact (Below.refl _ _).alloc (Nat.le_refl _) _)
    | (refine wpS_hskip hS1 (o := ⟨_, _, _, _, _, _⟩) rfl ?_ ?_; (focus rfl); simp only [Act.put, List.setIfInBounds_toArray, List.set_cons_zero, List.set_cons_succ]))
  refine abs (R := fun W => Exit.then _ _ _ _ W) (fun W => Below w.heap.size w W ∧ Blk W w.heap.size 65 [.string s])
    ⟨hw0.trans (hS1.mono hw0.size), hA.belowS hS1⟩ ?_
  rintro w2 ⟨hw2, hA2⟩
  have b0 := hA2.cell 0 rfl
  have bl := hA2.lt
  go_wp2
  go_ret2
  refine ⟨?_, hw2⟩
  have e : bitsN s = 0 := if_neg (by simpa using hE)
  rw [e]; rfl

set_option maxHeartbeats 800000 in
theorem Bits_ok (s : ByteArray) (w : World) (hs : s.size ≤ 1048577) (hE : bitsE s = 0) :
    Calls Try.prog 18 #[.string s] w fun e w' => e = .returned (.tuple #[.int .i64 (bitsN s), .int .i64 (bitsE s)]) ∧ Below w.heap.size w w' := by
  have hP : firstNZ [ifB (decide (1048576 < (s.size : Int))) 4, ifB (decide (sizeV s < 0)) 22] = bitsE s := rfl
  have hs' : s.size ≤ maxLen := by unfold maxLen; omega
  go_enter Try.func18, Try.ntmps18
  go_wp2
  refine abs (R := fun W => Code.wp _ _ _ _ W) (fun W => Below w.heap.size w W ∧ Blk W w.heap.size 65 [.string s])
    ⟨by go_grown, Blk.new w 65 [.string s]⟩ ?_
  rintro w0 ⟨hw0, hA⟩
  have a0 := hA.cell 0 rfl
  have al := hA.lt
  refine wp_region_B
    [(0, true), (3, true), (1, false), (2, false), (4, false), (5, true), (6, false), (7, false), (8, false), (9, true)]
    (by kernel_rfl) (by kernel_rfl) (fun c a d v w h => by cases d <;> exact h) (fun hS1 => ?_)
  repeat (first
    | (refine wpS_nil ?_)
    | (refine wpS_skip (o := ⟨_, _, _, _, _, _⟩) rfl ?_ ?_; (focus rfl); simp only [Act.put, List.setIfInBounds_toArray, List.set_cons_zero, List.set_cons_succ])
    | (refine wpS_lightB (o := ⟨_, _, _, _, _, _⟩) (v := ?_) rfl ?_ (fun w' hS' => ?_) ?_; rotate_left; (focus rfl); (focus (go_simp; try with_reducible rfl)); simp only [Act.put, List.setIfInBounds_toArray, List.set_cons_zero, List.set_cons_succ])
    | (refine wpS_heavyB hS1 (o := ⟨_, _, _, _, _, _⟩) rfl ?_ (fun K hK => ?_); (focus rfl)
       go_wp2_with (first
         | (go_at_call 39; refine (long_any s _ hs').mono ?_; rintro e w1 ⟨rfl, hb1⟩)
         | (go_at_call 40; refine (size_any s _ hs).mono ?_; rintro e w1 ⟨rfl, hb1⟩)
         | (go_at_call 36; refine (when_any _ _ _).mono ?_; rintro e w1 ⟨rfl, rfl⟩)
         | (go_at_call 35; refine (first2 _ _ _ _ _ (Blk.new' rfl _ _)).mono ?_; rintro e w1 ⟨rfl, rfl⟩))
       refine ⟨?_, fun hS1 => ?_⟩
       · first | exact Below.refl _ _ | exact hb1 | exact (Below.refl _ _).alloc (Nat.le_refl _) _)
    | (refine wpS_hskip hS1 (o := ⟨_, _, _, _, _, _⟩) rfl ?_ ?_; (focus rfl); simp only [Act.put, List.setIfInBounds_toArray, List.set_cons_zero, List.set_cons_succ]))
  refine abs (R := fun W => Exit.then _ _ _ _ W) (fun W => Below w.heap.size w W ∧ Blk W w.heap.size 65 [.string s])
    ⟨hw0.trans (hS1.mono hw0.size), hA.belowS hS1⟩ ?_
  rintro w2 ⟨hw2, hA2⟩
  have b0 := hA2.cell 0 rfl
  have bl := hA2.lt
  go_wp2_with (first
    | (go_at_call 40; refine (size_any s _ hs).mono ?_; rintro e w1 ⟨rfl, hb1⟩))
  go_ret2
  refine ⟨?_, hw2.trans (hb1.mono hw2.size)⟩
  have e : bitsN s = sizeV s := if_pos hE
  rw [e, hE]; rfl

theorem Bits_any (s : ByteArray) (w : World) (hs : s.size ≤ 1048577) :
    Calls Try.prog 18 #[.string s] w fun e w' => e = .returned (.tuple #[.int .i64 (bitsN s), .int .i64 (bitsE s)]) ∧ Below w.heap.size w w' := by
  by_cases h : bitsE s = 0
  · exact Bits_ok s w hs h
  · exact Bits_bad s w hs (by simpa using h)

end Go.Proofs.Ytlmoenjggggpkaa
