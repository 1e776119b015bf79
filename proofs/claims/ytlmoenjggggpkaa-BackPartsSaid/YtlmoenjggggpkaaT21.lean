import Derived.Test.YtlmoenjggggpkaaT20
namespace Go.Proofs.Ytlmoenjggggpkaa
open Go.RowKit Go.Chz
set_option linter.unusedVariables false

set_option maxHeartbeats 800000 in
theorem rTake_bad (s : ByteArray) (left n : Int) (w : World) (hs : s.size ≤ 1048577) (h : (takeE s left n != 0) = true) :
    Calls Try.prog 32 #[.agg #[.string s, .int .i64 left], .int .i64 n] w fun e w' => e = .returned (.tuple #[.agg #[.string ⟨#[]⟩, .int .i64 0], .int .u64 0, .int .i64 (takeE s left n)]) ∧ Below w.heap.size w w' := by
  have hc := fun w => rSkip_any s left n w hs
  have e1 : tkS s left n = ⟨#[]⟩ := if_neg (by simpa using h)
  have e2 : tkL s left n = 0 := if_neg (by simpa using h)
  rw [e1, e2] at hc
  go_enter Try.func32, Try.ntmps32
  go_wp2_with (first
    | (go_at_call 34; refine (hc _).mono ?_; rintro e w1 ⟨rfl, hb1⟩; have hA := ((Blk.new w 39 [.string s, .int .i64 left]).alloc (.cells #[.string ⟨#[]⟩, .int .i64 0] 39)).belowS hb1; have hR := (Blk.new' (w := w.alloc (.cells #[.string s, .int .i64 left] 39)) (H := w.heap.size + 1) (by simp) 39 [.string ⟨#[]⟩, .int .i64 0]).belowS hb1; have a0 := hA.cell 0 rfl; have a1 := hA.cell 1 rfl; have al := hA.lt; have x0 := hA.frozen 0; have x1 := hA.frozen 1; have r0 := hR.cell 0 rfl; have r1 := hR.cell 1 rfl; have g0 := hR.frozen 0; have g1 := hR.frozen 1; have rl := hR.lt; have hw1 : Below w.heap.size w w1 := Below.trans (by go_grown) (hb1.mono (by simp; omega))))
  refine bodyPost_ret (v := .tuple #[.agg #[.string ⟨#[]⟩, .int .i64 0], .int .u64 0, .int .i64 (takeE s left n)]) (results_3 rfl (res_cell (t := 39) (cs := [.string ⟨#[]⟩, .int .i64 0]) rfl (((hR.set 0 _).set 1 _).alloc _) Try.underlying39 rfl (by kernel_rfl)) rfl rfl) rfl ⟨rfl, ?_⟩
  go_grown

set_option maxHeartbeats 800000 in
theorem rTake_ok (s : ByteArray) (left n : Int) (w : World) (hs : s.size ≤ 1048577) (h : takeE s left n = 0) :
    Calls Try.prog 32 #[.agg #[.string s, .int .i64 left], .int .i64 n] w fun e w' => e = .returned (.tuple #[.agg #[.string s, .int .i64 (left - n)], .int .u64 (peekV s left n), .int .i64 0]) ∧ Below w.heap.size w w' := by
  have hc := fun w => rSkip_any s left n w hs
  have hp := fun w => rPeek_any s left n w hs
  have e1 : tkS s left n = s := if_pos h
  have e2 : tkL s left n = left - n := if_pos h
  rw [e1, e2, h] at hc
  obtain ⟨hk, hln⟩ := takeE_zero h
  rw [hk] at hp
  go_enter Try.func32, Try.ntmps32
  go_wp2_with (first
    | (go_at_call 34; refine (hc _).mono ?_; rintro e w1 ⟨rfl, hb1⟩; have hA := ((Blk.new w 39 [.string s, .int .i64 left]).alloc (.cells #[.string ⟨#[]⟩, .int .i64 0] 39)).belowS hb1; have hR := (Blk.new' (w := w.alloc (.cells #[.string s, .int .i64 left] 39)) (H := w.heap.size + 1) (by simp) 39 [.string ⟨#[]⟩, .int .i64 0]).belowS hb1; have a0 := hA.cell 0 rfl; have a1 := hA.cell 1 rfl; have al := hA.lt; have x0 := hA.frozen 0; have x1 := hA.frozen 1; have r0 := hR.cell 0 rfl; have r1 := hR.cell 1 rfl; have g0 := hR.frozen 0; have g1 := hR.frozen 1; have rl := hR.lt; have hw1 : Below w.heap.size w w1 := Below.trans (by go_grown) (hb1.mono (by simp; omega))))
  refine (hp _).mono ?_
  rintro e w2 ⟨rfl, hb2⟩
  have hA2 := (hA.alloc (.cells #[.string s, .int .i64 (left - n)] 39)).belowS hb2
  have hR2 := (hR.alloc (.cells #[.string s, .int .i64 (left - n)] 39)).belowS hb2
  have hN2 := (Blk.new w1 39 [.string s, .int .i64 (left - n)]).belowS hb2
  have hz := hw1.size
  have hw2 : Below w.heap.size w w2 := (hw1.alloc hz _).trans (hb2.mono (by simp; omega))
  have c0 := hN2.cell 0 rfl
  have c1 := hN2.cell 1 rfl
  have cl := hN2.lt
  have r0 := hR2.cell 0 rfl
  have r1 := hR2.cell 1 rfl
  have g0 := hR2.frozen 0
  have g1 := hR2.frozen 1
  have rl := hR2.lt
  go_wp2
  refine bodyPost_ret (v := .tuple #[.agg #[.string s, .int .i64 (left - n)], .int .u64 (peekV s left n), .int .i64 0]) (results_3 rfl (res_cell (t := 39) (cs := [.string s, .int .i64 (left - n)]) rfl ((hR2.set 0 _).set 1 _) Try.underlying39 rfl (by kernel_rfl)) rfl rfl) rfl ⟨rfl, ?_⟩
  go_grown

theorem rTake_any (s : ByteArray) (left n : Int) (w : World) (hs : s.size ≤ 1048577) :
    Calls Try.prog 32 #[.agg #[.string s, .int .i64 left], .int .i64 n] w fun e w' => e = .returned (.tuple #[.agg #[.string (tkS s left n), .int .i64 (tkL s left n)], .int .u64 (tkV s left n), .int .i64 (takeE s left n)]) ∧ Below w.heap.size w w' := by
  by_cases h : takeE s left n = 0
  · rw [tkS, tkL, tkV, if_pos h, if_pos h, if_pos h, h]; exact rTake_ok s left n w hs h
  · rw [tkS, tkL, tkV, if_neg h, if_neg h, if_neg h]; exact rTake_bad s left n w hs (by simpa using h)

end Go.Proofs.Ytlmoenjggggpkaa
