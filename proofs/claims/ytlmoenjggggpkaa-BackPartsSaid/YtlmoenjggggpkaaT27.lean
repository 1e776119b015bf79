import Derived.Test.YtlmoenjggggpkaaT26
namespace Go.Proofs.Ytlmoenjggggpkaa
open Go.RowKit Go.Chz
set_option linter.unusedVariables false

theorem law5_far (s : ByteArray) (a b : Int) (w : World) (hs : (s.size : Int) ≤ 9223372036854775807) (h : decide (20 < (s.size : Int)) = true) :
    Calls Try.prog 5 #[.string s, .int .i64 a, .int .i64 b] w fun e w' => e = .returned (.bool true) ∧ Below w.heap.size w w' := by
  go_enter Try.func5, Try.ntmps5
  go_wp2_with (first | (go_at_call 9; refine (awake_any _).mono ?_; rintro e w1 ⟨rfl, hb1⟩))
  go_ret
  exact ⟨rfl, hb1⟩

set_option maxRecDepth 100000 in
set_option maxHeartbeats 1600000 in
theorem law5_A (s S : ByteArray) (a b : Int) (w : World) (L m n : Nat) (h20 : decide (20 < (s.size : Int)) = false) (hsz : (s.size : Int) ≤ 20) (hS : s ++ ⟨#[128]⟩ = S) (hLs : ((L : Int) != 8 * (s.size : Int) + 7) = false) (hm : m ≤ 16) (hn : n ≤ 16) (hLb : L ≤ 200) (hmL : L < m)
    (cMa : ∀ w, Calls Try.prog 20 #[.int .i64 a, .int .i64 17] w fun e w' => e = .returned (.int .i64 m) ∧ w = w')
    (cMb : ∀ w, Calls Try.prog 20 #[.int .i64 b, .int .i64 17] w fun e w' => e = .returned (.int .i64 n) ∧ w = w')
    (c19 : ∀ w, Calls Try.prog 19 #[.string S] w fun e w' => e = .returned (.tuple #[.agg #[.string S, .int .i64 L], .int .i64 0]) ∧ Below w.heap.size w w')
    (ct1 : ∀ w, Calls Try.prog 21 #[.agg #[.string S, .int .i64 L], .int .i64 m] w fun e w' => e = .returned (.tuple #[.agg #[.string ⟨#[]⟩, .int .i64 0], .int .u64 0, .int .i64 5]) ∧ Below w.heap.size w w') :
    Calls Try.prog 5 #[.string s, .int .i64 a, .int .i64 b] w fun e w' => e = .returned (.bool true) ∧ Below w.heap.size w w' := by
  go_enter Try.func5, Try.ntmps5
  go_wp2_with (first
    | (go_at_call 20; (first | (with_reducible refine (cMa _).mono ?_; rintro e w1 ⟨rfl, rfl⟩) | (with_reducible refine (cMb _).mono ?_; rintro e w1 ⟨rfl, rfl⟩)))
    | (go_at_call 19; (first | (with_reducible refine (c19 _).mono ?_; rintro e w1 ⟨rfl, hb⟩; have hw : Below w.heap.size w w1 := hb; have hnew := Blk.new w1 39 [.string S, .int .i64 L]; clear hb)))
    | (go_at_call 21; (first | (with_reducible refine (ct1 _).mono ?_; rintro e w1 ⟨rfl, hb⟩; have hR := hnew.belowS hb; have hz := hw.size; have hw := (hw.alloc hz _).trans (hb.mono (by simp; omega)); have r0 := hR.cell 0 rfl; have r1 := hR.cell 1 rfl; have rl := hR.lt; have hx := Blk.new w1 39 [.string ⟨#[]⟩, .int .i64 0]; clear hb)))
    | (go_at_call 9; refine (awake_any _).mono ?_; rintro e w1 ⟨rfl, hb⟩; have hz := hw.size; have hw := (hw.alloc hz _).trans (hb.mono (by simp; omega))))
  go_ret
  exact ⟨rfl, hw⟩

set_option maxRecDepth 100000 in
set_option maxHeartbeats 1600000 in
theorem law5_B1 (s S : ByteArray) (a b : Int) (w : World) (L m n : Nat) (h20 : decide (20 < (s.size : Int)) = false) (hsz : (s.size : Int) ≤ 20) (hS : s ++ ⟨#[128]⟩ = S) (hLs : ((L : Int) != 8 * (s.size : Int) + 7) = false) (hm : m ≤ 16) (hn : n ≤ 16) (hLb : L ≤ 200) (U W D : Nat) (hmL : m ≤ L) (hD : (m : Int) + n - L = D) (hlt : (L : Int) < m + n) (hD1 : 0 < D) (hD2 : D ≤ 32) (Q : Nat) (hQ : IntKind.u64.wrap (2 ^ D) = (Q : Int)) (hQ0 : 0 < Q) (hWQ : (W : Int) % (Q : Int) = 0)
    (cMa : ∀ w, Calls Try.prog 20 #[.int .i64 a, .int .i64 17] w fun e w' => e = .returned (.int .i64 m) ∧ w = w')
    (cMb : ∀ w, Calls Try.prog 20 #[.int .i64 b, .int .i64 17] w fun e w' => e = .returned (.int .i64 n) ∧ w = w')
    (c19 : ∀ w, Calls Try.prog 19 #[.string S] w fun e w' => e = .returned (.tuple #[.agg #[.string S, .int .i64 L], .int .i64 0]) ∧ Below w.heap.size w w')
    (ct1 : ∀ w, Calls Try.prog 21 #[.agg #[.string S, .int .i64 L], .int .i64 m] w fun e w' => e = .returned (.tuple #[.agg #[.string S, .int .i64 ((L : Int) - m)], .int .u64 U, .int .i64 0]) ∧ Below w.heap.size w w')
    (ct2 : ∀ w, Calls Try.prog 21 #[.agg #[.string S, .int .i64 ((L : Int) - m)], .int .i64 n] w fun e w' => e = .returned (.tuple #[.agg #[.string ⟨#[]⟩, .int .i64 0], .int .u64 0, .int .i64 5]) ∧ Below w.heap.size w w')
    (ct3 : ∀ w, Calls Try.prog 21 #[.agg #[.string S, .int .i64 L], .int .i64 ((m : Int) + n)] w fun e w' => e = .returned (.tuple #[.agg #[.string ⟨#[]⟩, .int .i64 0], .int .u64 0, .int .i64 5]) ∧ Below w.heap.size w w')
    (cp : ∀ w, Calls Try.prog 22 #[.agg #[.string S, .int .i64 L], .int .i64 ((m : Int) + n)] w fun e w' => e = .returned (.tuple #[.int .u64 W, .int .i64 0]) ∧ Below w.heap.size w w') :
    Calls Try.prog 5 #[.string s, .int .i64 a, .int .i64 b] w fun e w' => e = .returned (.bool true) ∧ Below w.heap.size w w' := by
  go_enter Try.func5, Try.ntmps5
  go_wp2_with (first
    | (go_at_call 20; (first | (with_reducible refine (cMa _).mono ?_; rintro e w1 ⟨rfl, rfl⟩) | (with_reducible refine (cMb _).mono ?_; rintro e w1 ⟨rfl, rfl⟩)))
    | (go_at_call 19; (first | (with_reducible refine (c19 _).mono ?_; rintro e w1 ⟨rfl, hb⟩; have hw : Below w.heap.size w w1 := hb; have hnew := Blk.new w1 39 [.string S, .int .i64 L]; clear hb)))
    | (go_at_call 21; (first | (with_reducible refine (ct1 _).mono ?_; rintro e w1 ⟨rfl, hb⟩; have hR := hnew.belowS hb; have hz := hw.size; have hw := (hw.alloc hz _).trans (hb.mono (by simp; omega)); have r0 := hR.cell 0 rfl; have r1 := hR.cell 1 rfl; have rl := hR.lt; have hx := Blk.new w1 39 [.string S, .int .i64 ((L : Int) - m)]; clear hb) | (with_reducible refine (ct2 _).mono ?_; rintro e w1 ⟨rfl, hb⟩; have hX := hx.belowS hb; have hR := (hR.alloc (.cells #[.string S, .int .i64 ((L : Int) - m)] 39)).belowS hb; have hz := hw.size; have hw := (hw.alloc hz _).trans (hb.mono (by simp; omega)); have r0 := hR.cell 0 rfl; have r1 := hR.cell 1 rfl; have rl := hR.lt; have hy := Blk.new w1 39 [.string ⟨#[]⟩, .int .i64 0]; clear hb) | (with_reducible refine (ct3 _).mono ?_; rintro e w1 ⟨rfl, hb⟩; have hY := hy.belowS hb; have hR := (hR.alloc (.cells #[.string ⟨#[]⟩, .int .i64 0] 39)).belowS hb; have hz := hw.size; have hw := (hw.alloc hz _).trans (hb.mono (by simp; omega)); have r0 := hR.cell 0 rfl; have r1 := hR.cell 1 rfl; have rl := hR.lt; have hz9 := Blk.new w1 39 [.string ⟨#[]⟩, .int .i64 0]; clear hb)))
    | (go_at_call 22; (first | (with_reducible refine (cp _).mono ?_; rintro e w1 ⟨rfl, hb⟩; have hZ := hz9.belowS hb; have hY := (hY.alloc (.cells #[.string ⟨#[]⟩, .int .i64 0] 39)).belowS hb; have hR := (hR.alloc (.cells #[.string ⟨#[]⟩, .int .i64 0] 39)).belowS hb; have hz := hw.size; have hw := (hw.alloc hz _).trans (hb.mono (by simp; omega)); have r0 := hR.cell 0 rfl; have r1 := hR.cell 1 rfl; have rl := hR.lt; have y0 := hY.cell 0 rfl; have y1 := hY.cell 1 rfl; have yl := hY.lt; have z0 := hZ.cell 0 rfl; have z1 := hZ.cell 1 rfl; have zl := hZ.lt; clear hb)))
    | (go_at_call 9; refine (awake_any _).mono ?_; rintro e w1 ⟨rfl, hb⟩; have hw := hw.trans (hb.mono hw.size)))
  go_ret
  exact ⟨rfl, hw⟩

set_option maxRecDepth 100000 in
set_option maxHeartbeats 1600000 in
theorem law5_B2 (s S : ByteArray) (a b : Int) (w : World) (L m n : Nat) (h20 : decide (20 < (s.size : Int)) = false) (hsz : (s.size : Int) ≤ 20) (hS : s ++ ⟨#[128]⟩ = S) (hLs : ((L : Int) != 8 * (s.size : Int) + 7) = false) (hm : m ≤ 16) (hn : n ≤ 16) (hLb : L ≤ 200) (U V W : Nat) (hmL : m + n ≤ L) (G : Nat) (hG : IntKind.u64.wrap ((U : Int) * 2 ^ n) = (G : Int)) (hGb : G < 4294967296) (hV : V < 65536) (hW : (W : Int) = (G : Int) + V)
    (cMa : ∀ w, Calls Try.prog 20 #[.int .i64 a, .int .i64 17] w fun e w' => e = .returned (.int .i64 m) ∧ w = w')
    (cMb : ∀ w, Calls Try.prog 20 #[.int .i64 b, .int .i64 17] w fun e w' => e = .returned (.int .i64 n) ∧ w = w')
    (c19 : ∀ w, Calls Try.prog 19 #[.string S] w fun e w' => e = .returned (.tuple #[.agg #[.string S, .int .i64 L], .int .i64 0]) ∧ Below w.heap.size w w')
    (ct1 : ∀ w, Calls Try.prog 21 #[.agg #[.string S, .int .i64 L], .int .i64 m] w fun e w' => e = .returned (.tuple #[.agg #[.string S, .int .i64 ((L : Int) - m)], .int .u64 U, .int .i64 0]) ∧ Below w.heap.size w w')
    (ct2 : ∀ w, Calls Try.prog 21 #[.agg #[.string S, .int .i64 ((L : Int) - m)], .int .i64 n] w fun e w' => e = .returned (.tuple #[.agg #[.string S, .int .i64 ((L : Int) - m - n)], .int .u64 V, .int .i64 0]) ∧ Below w.heap.size w w')
    (ct3 : ∀ w, Calls Try.prog 21 #[.agg #[.string S, .int .i64 L], .int .i64 ((m : Int) + n)] w fun e w' => e = .returned (.tuple #[.agg #[.string S, .int .i64 ((L : Int) - (m + n))], .int .u64 W, .int .i64 0]) ∧ Below w.heap.size w w')
    (cp : ∀ w, Calls Try.prog 22 #[.agg #[.string S, .int .i64 L], .int .i64 ((m : Int) + n)] w fun e w' => e = .returned (.tuple #[.int .u64 W, .int .i64 0]) ∧ Below w.heap.size w w') :
    Calls Try.prog 5 #[.string s, .int .i64 a, .int .i64 b] w fun e w' => e = .returned (.bool true) ∧ Below w.heap.size w w' := by
  go_enter Try.func5, Try.ntmps5
  go_wp2_with (first
    | (go_at_call 20; (first | (with_reducible refine (cMa _).mono ?_; rintro e w1 ⟨rfl, rfl⟩) | (with_reducible refine (cMb _).mono ?_; rintro e w1 ⟨rfl, rfl⟩)))
    | (go_at_call 19; (first | (with_reducible refine (c19 _).mono ?_; rintro e w1 ⟨rfl, hb⟩; have hw : Below w.heap.size w w1 := hb; have hnew := Blk.new w1 39 [.string S, .int .i64 L]; clear hb)))
    | (go_at_call 21; (first | (with_reducible refine (ct1 _).mono ?_; rintro e w1 ⟨rfl, hb⟩; have hR := hnew.belowS hb; have hz := hw.size; have hw := (hw.alloc hz _).trans (hb.mono (by simp; omega)); have r0 := hR.cell 0 rfl; have r1 := hR.cell 1 rfl; have rl := hR.lt; have hx := Blk.new w1 39 [.string S, .int .i64 ((L : Int) - m)]; clear hb) | (with_reducible refine (ct2 _).mono ?_; rintro e w1 ⟨rfl, hb⟩; have hX := hx.belowS hb; have hR := (hR.alloc (.cells #[.string S, .int .i64 ((L : Int) - m)] 39)).belowS hb; have hz := hw.size; have hw := (hw.alloc hz _).trans (hb.mono (by simp; omega)); have r0 := hR.cell 0 rfl; have r1 := hR.cell 1 rfl; have rl := hR.lt; have hy := Blk.new w1 39 [.string S, .int .i64 ((L : Int) - m - n)]; clear hb) | (with_reducible refine (ct3 _).mono ?_; rintro e w1 ⟨rfl, hb⟩; have hY := hy.belowS hb; have hR := (hR.alloc (.cells #[.string S, .int .i64 ((L : Int) - m - n)] 39)).belowS hb; have hz := hw.size; have hw := (hw.alloc hz _).trans (hb.mono (by simp; omega)); have r0 := hR.cell 0 rfl; have r1 := hR.cell 1 rfl; have rl := hR.lt; have hz9 := Blk.new w1 39 [.string S, .int .i64 ((L : Int) - (m + n))]; clear hb)))
    | (go_at_call 22; (first | (with_reducible refine (cp _).mono ?_; rintro e w1 ⟨rfl, hb⟩; have hZ := hz9.belowS hb; have hY := (hY.alloc (.cells #[.string S, .int .i64 ((L : Int) - (m + n))] 39)).belowS hb; have hR := (hR.alloc (.cells #[.string S, .int .i64 ((L : Int) - (m + n))] 39)).belowS hb; have hz := hw.size; have hw := (hw.alloc hz _).trans (hb.mono (by simp; omega)); have r0 := hR.cell 0 rfl; have r1 := hR.cell 1 rfl; have rl := hR.lt; have y0 := hY.cell 0 rfl; have y1 := hY.cell 1 rfl; have yl := hY.lt; have z0 := hZ.cell 0 rfl; have z1 := hZ.cell 1 rfl; have zl := hZ.lt; clear hb)))
    | (go_at_call 9; refine (awake_any _).mono ?_; rintro e w1 ⟨rfl, hb⟩; have hw := hw.trans (hb.mono hw.size)))
  go_ret
  refine ⟨?_, hw⟩
  go_simp

end Go.Proofs.Ytlmoenjggggpkaa
