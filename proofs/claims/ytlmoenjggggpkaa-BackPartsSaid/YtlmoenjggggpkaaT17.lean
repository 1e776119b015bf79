import Derived.Test.YtlmoenjggggpkaaT16
namespace Go.Proofs.Ytlmoenjggggpkaa
open Go.RowKit Go.Chz
set_option linter.unusedVariables false

def readS (s : ByteArray) : ByteArray := if bitsE s = 0 then s else ⟨#[]⟩
set_option maxHeartbeats 800000 in
theorem Read_bad (E n : Int) (s : ByteArray) (w : World) (hc : ∀ w, Calls Try.prog 18 #[.string s] w fun e w' => e = .returned (.tuple #[.int .i64 n, .int .i64 E]) ∧ Below w.heap.size w w') (h : (E != 0) = true) :
    Calls Try.prog 19 #[.string s] w fun e w' => e = .returned (.tuple #[.agg #[.string ⟨#[]⟩, .int .i64 0], .int .i64 E]) ∧ Below w.heap.size w w' := by
  go_enter Try.func19, Try.ntmps19
  go_wp2_with (first
    | (go_at_call 18; refine (hc _).mono ?_; rintro e w1 ⟨rfl, hb1⟩; have hA := (Blk.new w 39 [.string ⟨#[]⟩, .int .i64 0]).belowS hb1; have a0 := hA.cell 0 rfl; have a1 := hA.cell 1 rfl; have f0 := hA.frozen 0; have f1 := hA.frozen 1; have al := hA.lt; have hw1 : Below w.heap.size w w1 := Below.trans (by go_grown) (hb1.mono (by simp))))
  refine bodyPost_ret (v := .tuple #[.agg #[.string ⟨#[]⟩, .int .i64 0], .int .i64 E]) (results_2 rfl (res_cell (t := 39) (cs := [.string ⟨#[]⟩, .int .i64 0]) rfl ((hA.set 0 _).set 1 _) Try.underlying39 rfl (by kernel_rfl)) rfl) rfl ⟨rfl, ?_⟩
  go_grown
set_option maxHeartbeats 800000 in
theorem Read_ok (n : Int) (s : ByteArray) (w : World) (hc : ∀ w, Calls Try.prog 18 #[.string s] w fun e w' => e = .returned (.tuple #[.int .i64 n, .int .i64 0]) ∧ Below w.heap.size w w') :
    Calls Try.prog 19 #[.string s] w fun e w' => e = .returned (.tuple #[.agg #[.string s, .int .i64 n], .int .i64 0]) ∧ Below w.heap.size w w' := by
  go_enter Try.func19, Try.ntmps19
  go_wp2_with (first
    | (go_at_call 18; refine (hc _).mono ?_; rintro e w1 ⟨rfl, hb1⟩; have hA := (Blk.new w 39 [.string ⟨#[]⟩, .int .i64 0]).belowS hb1; have a0 := hA.cell 0 rfl; have a1 := hA.cell 1 rfl; have f0 := hA.frozen 0; have f1 := hA.frozen 1; have al := hA.lt; have hw1 : Below w.heap.size w w1 := Below.trans (by go_grown) (hb1.mono (by simp))))
  refine bodyPost_ret (v := .tuple #[.agg #[.string s, .int .i64 n], .int .i64 0]) (results_2 rfl (res_cell (t := 39) (cs := [.string s, .int .i64 n]) rfl ((hA.set 0 _).set 1 _) Try.underlying39 rfl (by kernel_rfl)) rfl) rfl ⟨rfl, ?_⟩
  go_grown
set_option maxHeartbeats 800000 in
theorem rRead_bad (E n : Int) (s : ByteArray) (w : World) (hc : ∀ w, Calls Try.prog 29 #[.string s] w fun e w' => e = .returned (.tuple #[.int .i64 n, .int .i64 E]) ∧ Below w.heap.size w w') (h : (E != 0) = true) :
    Calls Try.prog 30 #[.string s] w fun e w' => e = .returned (.tuple #[.agg #[.string ⟨#[]⟩, .int .i64 0], .int .i64 E]) ∧ Below w.heap.size w w' := by
  go_enter Try.func30, Try.ntmps30
  go_wp2_with (first
    | (go_at_call 29; refine (hc _).mono ?_; rintro e w1 ⟨rfl, hb1⟩; have hA := (Blk.new w 39 [.string ⟨#[]⟩, .int .i64 0]).belowS hb1; have a0 := hA.cell 0 rfl; have a1 := hA.cell 1 rfl; have f0 := hA.frozen 0; have f1 := hA.frozen 1; have al := hA.lt; have hw1 : Below w.heap.size w w1 := Below.trans (by go_grown) (hb1.mono (by simp))))
  refine bodyPost_ret (v := .tuple #[.agg #[.string ⟨#[]⟩, .int .i64 0], .int .i64 E]) (results_2 rfl (res_cell (t := 39) (cs := [.string ⟨#[]⟩, .int .i64 0]) rfl ((hA.set 0 _).set 1 _) Try.underlying39 rfl (by kernel_rfl)) rfl) rfl ⟨rfl, ?_⟩
  go_grown
set_option maxHeartbeats 800000 in
theorem rRead_ok (n : Int) (s : ByteArray) (w : World) (hc : ∀ w, Calls Try.prog 29 #[.string s] w fun e w' => e = .returned (.tuple #[.int .i64 n, .int .i64 0]) ∧ Below w.heap.size w w') :
    Calls Try.prog 30 #[.string s] w fun e w' => e = .returned (.tuple #[.agg #[.string s, .int .i64 n], .int .i64 0]) ∧ Below w.heap.size w w' := by
  go_enter Try.func30, Try.ntmps30
  go_wp2_with (first
    | (go_at_call 29; refine (hc _).mono ?_; rintro e w1 ⟨rfl, hb1⟩; have hA := (Blk.new w 39 [.string ⟨#[]⟩, .int .i64 0]).belowS hb1; have a0 := hA.cell 0 rfl; have a1 := hA.cell 1 rfl; have f0 := hA.frozen 0; have f1 := hA.frozen 1; have al := hA.lt; have hw1 : Below w.heap.size w w1 := Below.trans (by go_grown) (hb1.mono (by simp))))
  refine bodyPost_ret (v := .tuple #[.agg #[.string s, .int .i64 n], .int .i64 0]) (results_2 rfl (res_cell (t := 39) (cs := [.string s, .int .i64 n]) rfl ((hA.set 0 _).set 1 _) Try.underlying39 rfl (by kernel_rfl)) rfl) rfl ⟨rfl, ?_⟩
  go_grown

theorem Read_any (s : ByteArray) (w : World) (hs : s.size ≤ 1048577) :
    Calls Try.prog 19 #[.string s] w fun e w' => e = .returned (.tuple #[.agg #[.string (readS s), .int .i64 (bitsN s)], .int .i64 (bitsE s)]) ∧ Below w.heap.size w w' := by
  have hc := fun w => Bits_any s w hs
  by_cases h : bitsE s = 0
  · rw [h] at hc ⊢; rw [readS, if_pos h]; exact Read_ok _ s w hc
  · rw [readS, if_neg h]; have e : bitsN s = 0 := if_neg h
    rw [e] at hc ⊢
    exact Read_bad _ _ s w hc (by simpa using h)
theorem rRead_any (s : ByteArray) (w : World) (hs : s.size ≤ 1048577) :
    Calls Try.prog 30 #[.string s] w fun e w' => e = .returned (.tuple #[.agg #[.string (readS s), .int .i64 (bitsN s)], .int .i64 (bitsE s)]) ∧ Below w.heap.size w w' := by
  have hc := fun w => rBits_any s w hs
  by_cases h : bitsE s = 0
  · rw [h] at hc ⊢; rw [readS, if_pos h]; exact rRead_ok _ s w hc
  · rw [readS, if_neg h]; have e : bitsN s = 0 := if_neg h
    rw [e] at hc ⊢
    exact rRead_bad _ _ s w hc (by simpa using h)

def bitAt (s : ByteArray) (i : Nat) : Nat := if h : i / 8 < s.size then s[i / 8].toNat / 2 ^ (i % 8) % 2 else 0
def pv (s : ByteArray) (L : Nat) : Nat → Nat
  | 0 => 0
  | i + 1 => 2 * pv s L i + (if i < L then bitAt s (L - 1 - i) else 0)
theorem bitAt_lt (s : ByteArray) (i : Nat) : bitAt s i ≤ 1 := by unfold bitAt; split <;> omega
theorem pv_lt (s : ByteArray) (L : Nat) : ∀ i, pv s L i < 2 ^ i
  | 0 => by simp [pv]
  | i + 1 => by
    have h1 := pv_lt s L i
    have h2 := bitAt_lt s (L - 1 - i)
    rw [pv, Nat.pow_succ]; split <;> omega

theorem bit_any (s : ByteArray) (i : Nat) (w : World) (hs : s.size ≤ 1048577) (hi : i / 8 < s.size) :
    Calls Try.prog 44 #[.agg #[.string s], .int .i64 i] w fun e w' => e = .returned (.int .u64 (bitAt s i)) ∧ Below w.heap.size w w' := by
  rw [bitAt, dif_pos hi]
  obtain ⟨b, hb⟩ : ∃ b, s[i / 8] = b := ⟨_, rfl⟩
  rw [hb]
  have hq : (i : Int).tdiv 8 = ((i / 8 : Nat) : Int) := by rw [Int.tdiv_eq_ediv_of_nonneg (by omega)]; omega
  have hr : (i : Int).tmod 8 = ((i % 8 : Nat) : Int) := by rw [Int.tmod_eq_emod_of_nonneg (by omega)]; omega
  have hbr := bit_rule b.toNat (i % 8) (by have := b.toNat_lt; omega)
  go_enter Try.func44, Try.ntmps44
  go_wp2
  go_ret
  refine ⟨?_, by go_grown⟩
  go_simp
  rw [IntWalk.u64_in (b.toNat : Int) ⟨by omega, by have := b.toNat_lt; omega⟩, hbr]; simp

set_option maxHeartbeats 800000 in
theorem number_any (s : ByteArray) (L K g : Nat) (w : World) (hs : s.size ≤ 1048577) (hL : L ≤ 8 * s.size) (hK : K ≤ 32) (hg : Blk w g 71 [.string s, .int .i64 L]) :
    Calls Try.prog 41 #[.pointer (some ⟨g, 0, none⟩), .int .i64 K] w fun e w' => e = .returned (.int .u64 (pv s L K)) ∧ Below w.heap.size w w' := by
  have g0 := hg.cell 0 rfl
  have g1 := hg.cell 1 rfl
  have gl := hg.lt
  go_enter Try.func41, Try.ntmps41
  go_wp2
  go_loopg [5, 9] K (fun q out i wr => ∃ j : Nat, q + j = K ∧ i = .int .i64 j ∧ out = .int .u64 (pv s L j) ∧ Hid (Below w.heap.size w wr))
  case atStart =>
    exact ⟨0, rfl, rfl, rfl, Below.refl _ _⟩
  case round =>
    obtain ⟨j, hq, rfl, rfl, HB⟩ := hrel
    have hG := hg.belowS HB.out
    have c0 := hG.cell 0 rfl
    have c1 := hG.cell 1 rfl
    have cl := hG.lt
    by_cases hj : j < K
    · have hlt := pv_lt s L j
      have hp := pow_le_of (show j ≤ 31 by omega)
      obtain ⟨P, hP⟩ : ∃ P, P = pv s L j := ⟨_, rfl⟩
      rw [← hP] at hlt ⊢
      have hPb : P < 2147483648 := by omega
      have HP := Lib.hid hP
      clear hP hlt hp g0 g1 gl hg
      by_cases hjL : j < L
      · have hat : ((L - 1 - j : Nat) : Int) = (L : Int) - 1 - j := by omega
        have hi : (L - 1 - j) / 8 < s.size := by omega
        obtain ⟨at', hA⟩ : ∃ a, a = L - 1 - j := ⟨_, rfl⟩
        rw [← hA] at hat hi
        have HA := Lib.hid hA
        have hat' := hat.symm
        clear hA hat
        go_wp2_with (first
          | (go_at_call 44; refine (bit_any s at' _ hs hi).mono ?_; rintro e w1 ⟨rfl, hb1⟩))
        go_roundg (gk - 1)
        case measure => omega
        case rel =>
          refine ⟨j + 1, by omega, rfl, ?_, ?_⟩
          · have h1 := bitAt_lt s at'
            rw [show (P : Int) * 2 = ((P * 2 : Nat) : Int) by simp, u64_or_nat _ _ (by omega) (by omega), nat_join 1 _ _ (by omega) (by omega), pv, if_pos hjL, ← HP.out, ← HA.out]
            congr 2; omega
          · exact HB.out.trans (hb1.mono HB.out.size)
      · go_wp2
        go_roundg (gk - 1)
        case measure => omega
        case rel =>
          refine ⟨j + 1, by omega, rfl, ?_, HB⟩
          rw [pv, if_neg hjL, ← HP.out]
          congr 1; omega
    · go_wp2
      have e : j = K := by omega
      subst e
      go_ret
      exact ⟨rfl, HB.out⟩
end Go.Proofs.Ytlmoenjggggpkaa
