import Derived.Test.YtlmoenjggggpkaaT27
namespace Go.Proofs.Ytlmoenjggggpkaa
open Go.RowKit Go.Chz
set_option linter.unusedVariables false

theorem S_size (s : ByteArray) (b : UInt8) : (s ++ (⟨#[b]⟩ : ByteArray)).size = s.size + 1 := by simp [ByteArray.size_append]; rfl
theorem S_last (s : ByteArray) (b : UInt8) (h : (s ++ (⟨#[b]⟩ : ByteArray)).size - 1 < (s ++ (⟨#[b]⟩ : ByteArray)).size) : (s ++ (⟨#[b]⟩ : ByteArray))[(s ++ (⟨#[b]⟩ : ByteArray)).size - 1] = b := by
  have e : (s ++ (⟨#[b]⟩ : ByteArray)).size - 1 = s.size := by rw [S_size]; rfl
  have h2 : s.size < (s ++ (⟨#[b]⟩ : ByteArray)).size := by rw [S_size]; omega
  have e3 : (s ++ (⟨#[b]⟩ : ByteArray))[(s ++ (⟨#[b]⟩ : ByteArray)).size - 1] = (s ++ (⟨#[b]⟩ : ByteArray))[s.size] := getElem_congr rfl e _
  rw [e3]
  rw [ByteArray.getElem_append_right (Nat.le_refl _)]
  simp; rfl
theorem sizeV_S (s : ByteArray) (b : UInt8) (hb : b.toNat ≠ 0) : sizeV (s ++ (⟨#[b]⟩ : ByteArray)) = 8 * (s.size : Int) + (Lib.bitLen b.toNat : Int) - 1 := by
  have h0 : 0 < (s ++ (⟨#[b]⟩ : ByteArray)).size := by rw [S_size]; omega
  have hl := S_last s b (by omega)
  obtain ⟨_, e⟩ := sizeV_pos (s ++ (⟨#[b]⟩ : ByteArray)) h0 (by rw [hl]; exact hb)
  rw [e, hl, S_size]
  omega
theorem bits_S (s : ByteArray) (b : UInt8) (hb : b.toNat ≠ 0) (hs : s.size < 1048576) : bitsE (s ++ (⟨#[b]⟩ : ByteArray)) = 0 ∧ bitsN (s ++ (⟨#[b]⟩ : ByteArray)) = 8 * (s.size : Int) + (Lib.bitLen b.toNat : Int) - 1 := by
  have hv := sizeV_S s b hb
  have hp := bitLen_pos ⟨b.toNat, b.toNat_lt⟩ hb
  simp only at hp
  have hE : bitsE (s ++ (⟨#[b]⟩ : ByteArray)) = 0 := by
    rw [bitsE_val, S_size, if_neg (by omega), if_neg (by omega)]
  exact ⟨hE, by rw [bitsN, if_pos hE, hv]⟩
theorem rightE_of {s : ByteArray} {left : Int} (hs : s.size ≤ 1048576) (h0 : 0 ≤ left) (h1 : left ≤ sizeV s) : rightE s left = 0 := by
  rw [rightE, if_neg (by omega)]
theorem askE_of {s : ByteArray} {left n : Int} (h : rightE s left = 0) (h0 : 0 ≤ n) (h1 : n ≤ 32) : askE s left n = 0 := by
  rw [askE, h, askB, decide_eq_false (by omega)]; rfl
theorem takeE_ok {s : ByteArray} {left n : Int} (h : askE s left n = 0) (h1 : n ≤ left) : takeE s left n = 0 := by
  rw [takeE, h, decide_eq_false (by omega)]; rfl
theorem takeE_short {s : ByteArray} {left n : Int} (h : askE s left n = 0) (h1 : left < n) : takeE s left n = 5 := by
  rw [takeE, h, decide_eq_true h1]; rfl
theorem Take_short {s : ByteArray} {left n : Int} (hs : s.size ≤ 1048577) (h : askE s left n = 0) (h1 : left < n) (w : World) :
    Calls Try.prog 21 #[.agg #[.string s, .int .i64 left], .int .i64 n] w fun e w' => e = .returned (.tuple #[.agg #[.string ⟨#[]⟩, .int .i64 0], .int .u64 0, .int .i64 5]) ∧ Below w.heap.size w w' := by
  have h2 := takeE_short h h1
  have hc := Take_any s left n w hs
  rw [tkS, tkL, tkV, h2, if_neg (by decide), if_neg (by decide), if_neg (by decide)] at hc
  exact hc
theorem Take_good {s : ByteArray} (L n : Nat) (hs : s.size ≤ 1048577) (h : askE s L n = 0) (h1 : n ≤ L) (w : World) :
    Calls Try.prog 21 #[.agg #[.string s, .int .i64 L], .int .i64 n] w fun e w' => e = .returned (.tuple #[.agg #[.string s, .int .i64 ((L : Int) - n)], .int .u64 (pv s L n), .int .i64 0]) ∧ Below w.heap.size w w' := by
  have h2 := takeE_ok h (show (n : Int) ≤ L by omega)
  have hc := Take_any s L n w hs
  rw [tkS, tkL, tkV, if_pos h2, if_pos h2, if_pos h2, h2, peekV, if_pos h] at hc
  exact hc

theorem law5_near (s : ByteArray) (a b : Int) (w : World) (hs : s.size ≤ 20) (wa : (Lit.int .i64 a).wf = true) (wb : (Lit.int .i64 b).wf = true) :
    Calls Try.prog 5 #[.string s, .int .i64 a, .int .i64 b] w fun e w' => e = .returned (.bool true) ∧ Below w.heap.size w w' := by
  have cMa := fun w => Mod_any a 17 w (by decide) (by decide) wa
  have cMb := fun w => Mod_any b 17 w (by decide) (by decide) wb
  obtain ⟨m, hm⟩ := Int.eq_ofNat_of_zero_le (Int.emod_nonneg a (show (17 : Int) ≠ 0 by decide))
  obtain ⟨n, hn⟩ := Int.eq_ofNat_of_zero_le (Int.emod_nonneg b (show (17 : Int) ≠ 0 by decide))
  have hm2 := Int.emod_lt_of_pos a (show (0 : Int) < 17 by decide)
  have hn2 := Int.emod_lt_of_pos b (show (0 : Int) < 17 by decide)
  rw [hm] at cMa hm2
  rw [hn] at cMb hn2
  obtain ⟨hE, hN⟩ := bits_S s 128 (by decide) (by omega)
  have hV := sizeV_S s 128 (by decide)
  have hsz := S_size s 128
  obtain ⟨S, hS⟩ : ∃ S, s ++ (⟨#[128]⟩ : ByteArray) = S := ⟨_, rfl⟩
  rw [hS] at hE hN hV hsz
  obtain ⟨L, hL⟩ : ∃ L : Nat, L = 8 * s.size + 7 := ⟨_, rfl⟩
  have eb : Lib.bitLen (UInt8.toNat 128) = 8 := by decide +kernel
  rw [eb] at hN hV
  have hNL : bitsN S = (L : Int) := by rw [hN, hL]; omega
  have hVL : sizeV S = (L : Int) := by rw [hV, hL]; omega
  have c19 := fun w => Read_at (s := S) (t := S) (a := L) (e0 := 0) w (by omega) ⟨hE, if_pos hE, hNL⟩
  have hr : ∀ x : Nat, x ≤ L → rightE S x = 0 := fun x hx => rightE_of (by omega) (by omega) (by omega)
  have hk : ∀ x y : Nat, x ≤ L → y ≤ 32 → askE S x y = 0 := fun x y hx hy => askE_of (hr x hx) (by omega) (by omega)
  have hSs : S.size ≤ 1048577 := by omega
  have h20 : decide (20 < (s.size : Int)) = false := decide_eq_false (by omega)
  have hLs : ((L : Int) != 8 * (s.size : Int) + 7) = false := by simp; omega
  have cp : ∀ w, Calls Try.prog 22 #[.agg #[.string S, .int .i64 L], .int .i64 ((m : Int) + n)] w fun e w' => e = .returned (.tuple #[.int .u64 (pv S L (m + n)), .int .i64 0]) ∧ Below w.heap.size w w' := by
    intro w
    have h := Peek_any S L ((m + n : Nat) : Int) w hSs
    rw [peekV, if_pos (hk L (m + n) (Nat.le_refl _) (by omega)), hk L (m + n) (Nat.le_refl _) (by omega)] at h
    exact h
  by_cases hmL : L < m
  · exact law5_A s S a b w L m n h20 (by omega) hS hLs (by omega) (by omega) (by omega) hmL cMa cMb c19 (Take_short hSs (hk L m (Nat.le_refl _) (by omega)) (by omega))
  · have ct1 := Take_good (s := S) L m hSs (hk L m (Nat.le_refl _) (by omega)) (by omega)
    have eL : (L : Int) - m = ((L - m : Nat) : Int) := by omega
    by_cases h2 : L < m + n
    · have hk2 := hk (L - m) n (by omega) (by omega)
      rw [← eL] at hk2
      have ct2 := Take_short hSs hk2 (by omega)
      have ct3 := Take_short hSs (hk L (m + n) (Nat.le_refl _) (by omega)) (by omega)
      have hpo := pv_over S L (m + n - L)
      rw [show L + (m + n - L) = m + n by omega] at hpo
      refine law5_B1 s S a b w L m n h20 (by omega) hS hLs (by omega) (by omega) (by omega) _ _ (m + n - L) (by omega) (by omega) (by omega) (by omega) (by omega) (2 ^ (m + n - L)) (u64pow _ (by omega)) (Nat.pow_pos (by omega)) ?_ cMa cMb c19 ct1 ct2 ct3 cp
      rw [hpo]; exact_mod_cast Nat.mul_mod_right _ _
    · have hk2 := hk (L - m) n (by omega) (by omega)
      have ct2 := Take_good (s := S) (L - m) n hSs hk2 (by omega)
      rw [← eL] at ct2
      have ct3 := Take_good (s := S) L (m + n) hSs (hk L (m + n) (Nat.le_refl _) (by omega)) (by omega)
      have hpa := pv_add S L m (by omega) n
      have hU := pv_lt S L m
      have hV1 := pv_lt S (L - m) n
      have q1 := pow_le_of (show m ≤ 16 by omega)
      have q2 := pow_le_of (show n ≤ 16 by omega)
      have hG : pv S L m * 2 ^ n < 4294967296 := by
        calc pv S L m * 2 ^ n ≤ 65535 * 65536 := Nat.mul_le_mul (by omega) (by omega)
          _ < 4294967296 := by decide
      refine law5_B2 s S a b w L m n h20 (by omega) hS hLs (by omega) (by omega) (by omega) _ _ _ (by omega) (pv S L m * 2 ^ n) ?_ hG (by omega) ?_ cMa cMb c19 ct1 ct2 ct3 cp
      · have e : ((pv S L m : Nat) : Int) * 2 ^ n = ((pv S L m * 2 ^ n : Nat) : Int) := by simp
        rw [e]; exact IntWalk.u64_in _ ⟨by omega, by omega⟩
      · rw [hpa, Nat.mul_comm (2 ^ n)]; simp
theorem law5 (s : ByteArray) (a b : Int) (w : World) (hs : s.size ≤ maxLen) (wa : (Lit.int .i64 a).wf = true) (wb : (Lit.int .i64 b).wf = true) :
    Calls Try.prog 5 #[.string s, .int .i64 a, .int .i64 b] w fun e w' => e = .returned (.bool true) ∧ Below w.heap.size w w' := by
  by_cases h : 20 < (s.size : Int)
  · exact law5_far s a b w (by unfold maxLen at hs; omega) (decide_eq_true h)
  · exact law5_near s a b w (by omega) wa wb
end Go.Proofs.Ytlmoenjggggpkaa
