import Derived.Test.YtlmoenjggggpkaaT11
namespace Go.Proofs.Ytlmoenjggggpkaa
open Go.RowKit Go.Chz
set_option linter.unusedVariables false

def putS (s : ByteArray) (part n k v : Int) : ByteArray := if putE s.size part n k v = 0 then ⟨(s.data.toList ++ emit (part.toNat + v.toNat * 2 ^ n.toNat) ((n + k).toNat / 8)).toArray⟩ else ⟨#[]⟩
def putP (s : ByteArray) (part n k v : Int) : Int := if putE s.size part n k v = 0 then (((part.toNat + v.toNat * 2 ^ n.toNat) / 256 ^ ((n + k).toNat / 8) : Nat) : Int) else 0
def putN (s : ByteArray) (part n k v : Int) : Int := if putE s.size part n k v = 0 then (n + k) % 8 else 0
theorem putV_eq (s : ByteArray) (part n k v : Int) : putV s part n k v = .tuple #[.agg #[.string (putS s part n k v), .int .i64 (putP s part n k v), .int .i64 (putN s part n k v)], .int .i64 (putE s.size part n k v)] := by
  unfold putV putS putP putN
  by_cases h : putE s.size part n k v = 0
  · simp only [h, if_true]
  · simp only [if_neg h]

theorem Put_c (s : ByteArray) (part n k v : Int) (w : World) (hs : s.size ≤ 1048577) (hv : 0 ≤ v) :
    Calls Try.prog 10 #[.agg #[.string s, .int .i64 part, .int .i64 n], .int .i64 k, .int .u64 v] w fun e w' => e = .returned (.tuple #[.agg #[.string (putS s part n k v), .int .i64 (putP s part n k v), .int .i64 (putN s part n k v)], .int .i64 (putE s.size part n k v)]) ∧ Below w.heap.size w w' := by
  rw [← putV_eq]; exact Put_all s part n k v w hs hv
theorem rPut_c (s : ByteArray) (part n k v : Int) (w : World) (hs : s.size ≤ 1048577) (hv : 0 ≤ v) :
    Calls Try.prog 11 #[.agg #[.string s, .int .i64 part, .int .i64 n], .int .i64 k, .int .u64 v] w fun e w' => e = .returned (.tuple #[.agg #[.string (putS s part n k v), .int .i64 (putP s part n k v), .int .i64 (putN s part n k v)], .int .i64 (putE s.size part n k v)]) ∧ Below w.heap.size w w' := by
  rw [← putV_eq]; exact rPut_all s part n k v w hs hv

set_option maxHeartbeats 800000 in
/-- the law's own put, where it succeeds -/
theorem lput_ok (s : ByteArray) (part n k v : Int) (w : World) (hs : s.size ≤ 1048577) (hv : 0 ≤ v) (hE : putE s.size part n k v = 0) :
    Calls Try.prog 24 #[.agg #[.string s, .int .i64 part, .int .i64 n], .int .i64 k, .int .u64 v] w fun e w' => e = .returned (.agg #[.string (putS s part n k v), .int .i64 (putP s part n k v), .int .i64 (putN s part n k v)]) ∧ Below w.heap.size w w' := by
  go_enter Try.func24, Try.ntmps24
  go_wp2_with (first
    | (go_at_call 10; refine (Put_c s part n k v _ hs hv).mono ?_; rintro e w1 ⟨rfl, hb1⟩; have hR := (Blk.new' (w := w.alloc (.cells #[.string s, .int .i64 part, .int .i64 n] 23)) (H := w.heap.size + 1) (by simp) 23 [.string ⟨#[]⟩, .int .i64 0, .int .i64 0]).belowS hb1; have hw1 : Below w.heap.size w w1 := Below.trans (by go_grown) (hb1.mono (by simp; omega)); have r0 := hR.cell 0 rfl; have r1 := hR.cell 1 rfl; have r2 := hR.cell 2 rfl; have g0 := hR.frozen 0; have g1 := hR.frozen 1; have g2 := hR.frozen 2; have hRl := hR.lt))
  refine bodyPost_ret (v := .agg #[.string (putS s part n k v), .int .i64 (putP s part n k v), .int .i64 (putN s part n k v)]) (results_1 rfl (res_cell (t := 23) (cs := [.string (putS s part n k v), .int .i64 (putP s part n k v), .int .i64 (putN s part n k v)]) rfl ((((hR.set 0 _).set 1 _).set 2 _).alloc _) Try.underlying23 rfl (by kernel_rfl))) rfl ⟨rfl, ?_⟩
  go_grown

set_option maxHeartbeats 800000 in
/-- the law's own put, where it fails -/
theorem lput_no (s : ByteArray) (part n k v : Int) (w : World) (hs : s.size ≤ 1048577) (hv : 0 ≤ v) (hE : (putE s.size part n k v == 0) = false) :
    Calls Try.prog 24 #[.agg #[.string s, .int .i64 part, .int .i64 n], .int .i64 k, .int .u64 v] w fun e w' => e = .returned (.agg #[.string s, .int .i64 part, .int .i64 n]) ∧ Below w.heap.size w w' := by
  go_enter Try.func24, Try.ntmps24
  go_wp2_with (first
    | (go_at_call 10; refine (Put_c s part n k v _ hs hv).mono ?_; rintro e w1 ⟨rfl, hb1⟩; have hA := ((Blk.new w 23 [.string s, .int .i64 part, .int .i64 n]).alloc (.cells #[.string ⟨#[]⟩, .int .i64 0, .int .i64 0] 23)).belowS hb1; have hR := (Blk.new' (w := w.alloc (.cells #[.string s, .int .i64 part, .int .i64 n] 23)) (H := w.heap.size + 1) (by simp) 23 [.string ⟨#[]⟩, .int .i64 0, .int .i64 0]).belowS hb1; have hw1 : Below w.heap.size w w1 := Below.trans (by go_grown) (hb1.mono (by simp; omega)); have r0 := hR.cell 0 rfl; have r1 := hR.cell 1 rfl; have r2 := hR.cell 2 rfl; have g0 := hR.frozen 0; have g1 := hR.frozen 1; have g2 := hR.frozen 2; have hRl := hR.lt; have a0 := hA.cell 0 rfl; have a1 := hA.cell 1 rfl; have a2 := hA.cell 2 rfl; have hAl := hA.lt))
  refine bodyPost_ret (v := .agg #[.string s, .int .i64 part, .int .i64 n]) (results_1 rfl (res_cell (t := 23) (cs := [.string s, .int .i64 part, .int .i64 n]) rfl ((((hR.set 0 _).set 1 _).set 2 _).alloc _) Try.underlying23 rfl (by kernel_rfl))) rfl ⟨rfl, ?_⟩
  go_grown

set_option maxHeartbeats 800000 in
theorem ends_ok (s t : ByteArray) (part n : Int) (w : World) (hs : s.size ≤ 1048577) (ht : doneS s part n = t) (hE : doneE s.size part n = 0) :
    Calls Try.prog 23 #[.agg #[.string s, .int .i64 part, .int .i64 n], .string t] w fun e w' => e = .returned (.bool true) ∧ Below w.heap.size w w' := by
  have hc : ∀ w, Calls Try.prog 14 #[.agg #[.string s, .int .i64 part, .int .i64 n]] w fun e w' => e = .returned (.tuple #[.string t, .int .i64 0]) ∧ Below w.heap.size w w' := by
    intro w; have h := Done_all s part n w hs; rw [ht, hE] at h; exact h
  clear ht hE
  go_enter Try.func23, Try.ntmps23
  go_wp2_with (first
    | (go_at_call 14; refine (hc _).mono ?_; rintro e w1 ⟨rfl, hb1⟩; have hw1 : Below w.heap.size w w1 := Below.trans (by go_grown) (hb1.mono (by simp))))
  go_ret
  exact ⟨rfl, hw1⟩

theorem bits13 : bitsN ⟨#[13]⟩ = 3 ∧ bitsE ⟨#[13]⟩ = 0 := by decide +kernel
theorem Bits13 (w : World) : Calls Try.prog 18 #[.string ⟨#[13]⟩] w fun e w' => e = .returned (.tuple #[.int .i64 3, .int .i64 0]) ∧ Below w.heap.size w w' := by
  have h := Bits_any ⟨#[13]⟩ w (by decide); rw [bits13.1, bits13.2] at h; exact h
theorem lput_at {s t : ByteArray} {part n k v a b : Int} (w : World) (hs : s.size ≤ 1048577) (hv : 0 ≤ v) (h : putE s.size part n k v = 0 ∧ putS s part n k v = t ∧ putP s part n k v = a ∧ putN s part n k v = b) :
    Calls Try.prog 24 #[.agg #[.string s, .int .i64 part, .int .i64 n], .int .i64 k, .int .u64 v] w fun e w' => e = .returned (.agg #[.string t, .int .i64 a, .int .i64 b]) ∧ Below w.heap.size w w' := by
  obtain ⟨h1, rfl, rfl, rfl⟩ := h
  exact lput_ok s part n k v w hs hv h1

theorem put35 (w : World) : Calls Try.prog 24 #[.agg #[.string ⟨#[]⟩, .int .i64 0, .int .i64 0], .int .i64 3, .int .u64 5] w fun e w' => e = .returned (.agg #[.string ⟨#[]⟩, .int .i64 5, .int .i64 3]) ∧ Below w.heap.size w w' :=
  lput_at w (by decide) (by decide) (by decide +kernel)
theorem put41 (w : World) : Calls Try.prog 24 #[.agg #[.string ⟨#[]⟩, .int .i64 0, .int .i64 0], .int .i64 4, .int .u64 1] w fun e w' => e = .returned (.agg #[.string ⟨#[]⟩, .int .i64 1, .int .i64 4]) ∧ Below w.heap.size w w' :=
  lput_at w (by decide) (by decide) (by decide +kernel)
theorem put633 (w : World) : Calls Try.prog 24 #[.agg #[.string ⟨#[]⟩, .int .i64 1, .int .i64 4], .int .i64 6, .int .u64 33] w fun e w' => e = .returned (.agg #[.string ⟨#[17]⟩, .int .i64 2, .int .i64 2]) ∧ Below w.heap.size w w' :=
  lput_at w (by decide) (by decide) (by decide +kernel)
theorem ends13 (w : World) : Calls Try.prog 23 #[.agg #[.string ⟨#[]⟩, .int .i64 5, .int .i64 3], .string ⟨#[13]⟩] w fun e w' => e = .returned (.bool true) ∧ Below w.heap.size w w' :=
  ends_ok _ _ _ _ w (by decide) (by decide +kernel) (by decide +kernel)
theorem ends176 (w : World) : Calls Try.prog 23 #[.agg #[.string ⟨#[17]⟩, .int .i64 2, .int .i64 2], .string ⟨#[17, 6]⟩] w fun e w' => e = .returned (.bool true) ∧ Below w.heap.size w w' :=
  ends_ok _ _ _ _ w (by decide) (by decide +kernel) (by decide +kernel)

set_option maxHeartbeats 1600000 in
theorem awake_any (w : World) : Calls Try.prog 9 #[] w fun e w' => e = .returned (.bool true) ∧ Below w.heap.size w w' := by
  go_enter Try.func9, Try.ntmps9
  go_wp2_with (first
    | (go_at_call 18; refine (Bits13 _).mono ?_; rintro e w1 ⟨rfl, hb1⟩; have hA1 := (Blk.new w 23 [.string ⟨#[]⟩, .int .i64 0, .int .i64 0]).belowS hb1; have hw1 : Below w.heap.size w w1 := Below.trans (by go_grown) (hb1.mono (by simp)); have a0 := hA1.cell 0 rfl; have a1 := hA1.cell 1 rfl; have a2 := hA1.cell 2 rfl; have hAl := hA1.lt; clear hb1))
  · refine (put35 _).mono ?_; rintro e w2 ⟨rfl, hb1⟩; have hA2 := hA1.belowS hb1; have hw2 := hw1.trans (hb1.mono hw1.size); have a0 := hA2.cell 0 rfl; have a1 := hA2.cell 1 rfl; have a2 := hA2.cell 2 rfl; have hAl := hA2.lt; clear hb1
    go_wp2_with (first | (go_at_call 23; refine (ends13 _).mono ?_; rintro e w3 ⟨rfl, hb1⟩; have hA3 := hA2.belowS hb1; have hw3 := hw2.trans (hb1.mono hw2.size); have a0 := hA3.cell 0 rfl; have a1 := hA3.cell 1 rfl; have a2 := hA3.cell 2 rfl; have hAl := hA3.lt; clear hb1))
    refine (put41 _).mono ?_; rintro e w4 ⟨rfl, hb1⟩; have hA4 := hA3.belowS hb1; have hw4 := hw3.trans (hb1.mono hw3.size); have a0 := hA4.cell 0 rfl; have a1 := hA4.cell 1 rfl; have a2 := hA4.cell 2 rfl; have hAl := hA4.lt; clear hb1
    go_wp2_with (first | (go_at_call 24; refine (put633 _).mono ?_; rintro e w5 ⟨rfl, hb1⟩; have hA5 := hA4.belowS hb1; have hw5 := hw4.trans (hb1.mono hw4.size); have a0 := hA5.cell 0 rfl; have a1 := hA5.cell 1 rfl; have a2 := hA5.cell 2 rfl; have hAl := hA5.lt; clear hb1) | (go_at_call 23; refine (ends176 _).mono ?_; rintro e w6 ⟨rfl, hb1⟩; have hA6 := hA5.belowS hb1; have hw6 := hw5.trans (hb1.mono hw5.size); have a0 := hA6.cell 0 rfl; have a1 := hA6.cell 1 rfl; have a2 := hA6.cell 2 rfl; have hAl := hA6.lt; clear hb1))
    go_ret
    exact ⟨rfl, hw6⟩
end Go.Proofs.Ytlmoenjggggpkaa
