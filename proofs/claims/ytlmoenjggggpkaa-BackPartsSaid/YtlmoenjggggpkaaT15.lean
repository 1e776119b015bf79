import Derived.Test.YtlmoenjggggpkaaT12
namespace Go.Proofs.Ytlmoenjggggpkaa
open Go.RowKit Go.Chz
set_option linter.unusedVariables false

theorem bit_test : ∀ b : Fin 256, ∀ j : Fin 8, Lib.bitLen b.val ≤ j.val + 1 → (bits BinOp.and IntKind.u8 ((b.val : Int) / 2 ^ j.val) 1 == 0) = decide (Lib.bitLen b.val ≤ j.val) := by decide +kernel
theorem bitLen_pos : ∀ b : Fin 256, b.val ≠ 0 → 1 ≤ Lib.bitLen b.val := by decide +kernel

set_option maxHeartbeats 800000 in
theorem rBits_ok (s : ByteArray) (b : UInt8) (w : World) (hs : s.size ≤ 1048576) (h0 : 0 < s.size) (hb : s[s.size - 1] = b) (hb0 : ((b.toNat : Int) == 0) = false) :
    Calls Try.prog 29 #[.string s] w fun e w' => e = .returned (.tuple #[.int .i64 (8 * ((s.size : Int) - 1) + (Lib.bitLen b.toNat : Int) - 1), .int .i64 0]) ∧ Below w.heap.size w w' := by
  have he := isE s h0
  have hi : 1 ≤ (s.size : Int) ∧ (s.size : Int) - 1 < s.size := by omega
  have hbl := b.toNat_lt
  have hL : Lib.bitLen b.toNat ≤ 8 := Lib.bitLen_le8 ⟨b.toNat, hbl⟩
  have hL0 : 1 ≤ Lib.bitLen b.toNat := by
    exact bitLen_pos ⟨b.toNat, hbl⟩ (by simpa using hb0)
  go_enter Try.func29, Try.ntmps29
  go_wp2
  go_loopg [4] 7 (fun q i wr => ∃ j : Nat, q = j ∧ i = .int .i64 (8 * ((s.size : Int) - 1) + (j : Int)) ∧ j ≤ 7 ∧ Hid (Lib.bitLen b.toNat ≤ j + 1) ∧ wr = w)
  case atStart =>
    exact ⟨7, rfl, by congr 1; omega, by omega, hL, rfl⟩
  case round =>
    obtain ⟨j, rfl, rfl, hj, hbj, rfl⟩ := hrel
    have hq : (8 * ((s.size : Int) - 1) + (gk : Int)).tdiv 8 = (s.size : Int) - 1 := by rw [Int.tdiv_eq_ediv_of_nonneg (by omega)]; omega
    have hr : (8 * ((s.size : Int) - 1) + (gk : Int)).tmod 8 = (gk : Int) := by rw [Int.tmod_eq_emod_of_nonneg (by omega)]; omega
    have hi2 : 0 ≤ (s.size : Int) - 1 ∧ (s.size : Int) - 1 < s.size := by omega
    have hbt := bit_test ⟨b.toNat, hbl⟩ ⟨gk, by omega⟩ hbj.out
    by_cases hend : Lib.bitLen b.toNat ≤ gk
    · rw [decide_eq_true hend] at hbt
      have hbt' : (bits BinOp.and IntKind.u8 ((b.toNat : Int) / 2 ^ gk) 1 == 0) = true := hbt
      have HE := Lib.hid hend
      clear hend hbt
      go_wp2
      go_roundg (gk - 1)
      case measure => have := HE.out; omega
      case rel =>
        have := HE.out
        exact ⟨gk - 1, rfl, by congr 1; omega, by omega, by show _ ≤ _; omega, rfl⟩
    · have e : (gk : Int) = (Lib.bitLen b.toNat : Int) - 1 := by have := hbj.out; omega
      rw [decide_eq_false hend] at hbt
      have hbt' : (bits BinOp.and IntKind.u8 ((b.toNat : Int) / 2 ^ gk) 1 == 0) = false := hbt
      have HE := Lib.hid e
      clear hend hbt e
      go_wp2
      go_ret2
      refine ⟨?_, Below.refl _ _⟩
      have e := HE.out
      refine congrArg (fun x => Ending.returned (Value.tuple #[Value.int .i64 x, Value.int .i64 0])) (?_ : 8 * ((s.size : Int) - 1) + (gk : Int) = _)
      omega

theorem rBits_long (s : ByteArray) (w : World) (hs : (s.size : Int) ≤ 9223372036854775807) (h : decide (1048576 < (s.size : Int)) = true) :
    Calls Try.prog 29 #[.string s] w fun e w' => e = .returned (.tuple #[.int .i64 0, .int .i64 4]) ∧ Below w.heap.size w w' := by
  go_enter Try.func29, Try.ntmps29
  go_wp2
  go_ret2
  exact ⟨rfl, Below.refl _ _⟩
theorem rBits_nil (w : World) :
    Calls Try.prog 29 #[.string ⟨#[]⟩] w fun e w' => e = .returned (.tuple #[.int .i64 0, .int .i64 22]) ∧ Below w.heap.size w w' := by
  go_enter Try.func29, Try.ntmps29
  go_wp2
  go_ret2
  exact ⟨rfl, Below.refl _ _⟩
theorem rBits_zero (s : ByteArray) (w : World) (hs : s.size ≤ 1048576) (h0 : 0 < s.size) (hb : ((s[s.size - 1].toNat : Int) == 0) = true) :
    Calls Try.prog 29 #[.string s] w fun e w' => e = .returned (.tuple #[.int .i64 0, .int .i64 22]) ∧ Below w.heap.size w w' := by
  have he := isE s h0
  have hi : 1 ≤ (s.size : Int) ∧ (s.size : Int) - 1 < s.size := by omega
  go_enter Try.func29, Try.ntmps29
  go_wp2
  go_ret2
  exact ⟨rfl, Below.refl _ _⟩

theorem sizeV_nil : sizeV ⟨#[]⟩ = -1 := by decide +kernel
theorem sizeV_pos (s : ByteArray) (h0 : 0 < s.size) (hb : ¬ (s[s.size - 1]'(by omega)).toNat = 0) : 0 ≤ sizeV s ∧ sizeV s = 8 * ((s.size : Int) - 1) + (Lib.bitLen (s[s.size - 1]'(by omega)).toNat : Int) - 1 := by
  have h2 := bitLen_pos ⟨(s[s.size - 1]'(by omega)).toNat, (s[s.size - 1]'(by omega)).toNat_lt⟩ hb
  have e : sizeV s = 8 * ((s.size : Int) - 1) + (Lib.bitLen (s[s.size - 1]'(by omega)).toNat : Int) - 1 := by rw [sizeV, dif_pos h0, if_neg hb]
  simp only at h2
  exact ⟨by omega, e⟩
theorem bitsE_val (s : ByteArray) : bitsE s = if 1048576 < s.size then 4 else if sizeV s < 0 then 22 else 0 := by
  unfold bitsE ifB
  by_cases h : 1048576 < s.size
  · rw [if_pos h, decide_eq_true (by omega)]; rfl
  · rw [if_neg h, decide_eq_false (by omega)]
    by_cases h2 : sizeV s < 0
    · rw [if_pos h2, decide_eq_true h2]; rfl
    · rw [if_neg h2, decide_eq_false h2]; rfl
theorem rBits_any (s : ByteArray) (w : World) (hs : s.size ≤ 1048577) :
    Calls Try.prog 29 #[.string s] w fun e w' => e = .returned (.tuple #[.int .i64 (bitsN s), .int .i64 (bitsE s)]) ∧ Below w.heap.size w w' := by
  have hE := bitsE_val s
  by_cases h : 1048576 < s.size
  · rw [if_pos h] at hE
    rw [bitsN, hE, if_neg (by decide)]
    exact rBits_long s w (by omega) (decide_eq_true (by omega))
  · rw [if_neg h] at hE
    by_cases h0 : 0 < s.size
    · by_cases hb : (s[s.size - 1]'(by omega)).toNat = 0
      · have e : sizeV s = -1 := by rw [sizeV, dif_pos h0, if_pos hb]
        rw [e, if_pos (by decide)] at hE
        rw [bitsN, hE, if_neg (by decide)]
        exact rBits_zero s w (by omega) h0 (by rw [hb]; rfl)
      · obtain ⟨h1, h2⟩ := sizeV_pos s h0 hb
        rw [if_neg (by omega)] at hE
        rw [bitsN, hE, if_pos rfl, h2]
        exact rBits_ok s _ w (by omega) h0 rfl (by simpa using hb)
    · obtain rfl := nil_of_size s h0
      rw [sizeV_nil, if_pos (by decide)] at hE
      rw [bitsN, hE, if_neg (by decide)]
      exact rBits_nil w
end Go.Proofs.Ytlmoenjggggpkaa
