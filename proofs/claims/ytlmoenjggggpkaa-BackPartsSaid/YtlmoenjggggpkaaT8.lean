import Derived.Test.YtlmoenjggggpkaaT7
namespace Go.Proofs.Ytlmoenjggggpkaa
open Go.RowKit Go.Chz
set_option linter.unusedVariables false

theorem u64pow (K : Nat) (h : K ≤ 32) : IntKind.u64.wrap (2 ^ K) = ((2 ^ K : Nat) : Int) := by
  have := pow_le_of h
  have e : (2 : Int) ^ K = ((2 ^ K : Nat) : Int) := by simp
  have h0 : (0 : Int) ≤ ((2 ^ K : Nat) : Int) := Int.natCast_nonneg _
  rw [e]; exact IntWalk.u64_in _ ⟨by omega, by omega⟩

theorem bit_rule (V j : Nat) (hV : V < 18446744073709551616) : bits BinOp.and IntKind.u64 ((V : Int) / 2 ^ j) 1 = ((V / 2 ^ j % 2 : Nat) : Int) := by
  have e : (V : Int) / 2 ^ j = ((V / 2 ^ j : Nat) : Int) := by simp
  have h := Nat.div_le_self V (2 ^ j)
  rw [e]
  exact (u64_and_nat (V / 2 ^ j) 1 (by omega) (by omega)).trans (by rw [nat_mask1])

theorem pow256 (q : Nat) : 256 ^ q = 2 ^ (8 * q) := by rw [Nat.pow_mul]

theorem step_lo (T m : Nat) : (T % 2 ^ m / 256 ^ (m / 8)) + (T / 2 ^ m % 2) * 2 ^ (m % 8) = T % 2 ^ (m + 1) / 256 ^ (m / 8) := by
  rw [Nat.mod_pow_succ]
  have e : (2 : Nat) ^ m = 256 ^ (m / 8) * 2 ^ (m % 8) := by rw [pow256, ← Nat.pow_add, Nat.div_add_mod]
  rw [show 2 ^ m * (T / 2 ^ m % 2) = 256 ^ (m / 8) * (2 ^ (m % 8) * (T / 2 ^ m % 2)) by rw [← Nat.mul_assoc, ← e]]
  rw [Nat.add_mul_div_left _ _ (Nat.pow_pos (by omega)), Nat.mul_comm (T / 2 ^ m % 2)]

theorem part_lt (T m : Nat) : T % 2 ^ m / 256 ^ (m / 8) < 2 ^ (m % 8) := by
  have e : (2 : Nat) ^ m = 256 ^ (m / 8) * 2 ^ (m % 8) := by rw [pow256, ← Nat.pow_add, Nat.div_add_mod]
  have h := Nat.mod_lt T (show 0 < 2 ^ m from Nat.pow_pos (by omega))
  exact Nat.div_lt_of_lt_mul (by omega)

theorem step_byte (T m : Nat) (h : m % 8 = 7) : UInt8.ofNat (T % 2 ^ (m + 1) / 256 ^ (m / 8)) = UInt8.ofNat (T / 256 ^ (m / 8)) := by
  have e : m + 1 = 8 * (m / 8) + 8 := by omega
  have e2 : (2 : Nat) ^ (m + 1) = 256 ^ (m / 8) * 256 := by rw [e, Nat.pow_add, ← pow256]
  rw [e2, Nat.mod_mul_right_div_self]
  apply UInt8.toNat_inj.1
  simp

theorem step_zero (T m : Nat) (h : m % 8 = 7) : T % 2 ^ (m + 1) / 256 ^ ((m + 1) / 8) = 0 := by
  have h2 := part_lt T (m + 1)
  rw [show (m + 1) % 8 = 0 by omega, Nat.pow_zero] at h2
  exact Nat.lt_one_iff.1 h2

theorem bit_of (p V N j T : Nat) (hp : p < 2 ^ N) (hT : T = p + V * 2 ^ N) : V / 2 ^ j % 2 = T / 2 ^ (N + j) % 2 := by
  rw [hT, Nat.pow_add, ← Nat.div_div_eq_div_mul, Nat.add_mul_div_right _ _ (Nat.pow_pos (by omega)), Nat.div_eq_of_lt hp, Nat.zero_add]

/-- One byte, laid in a block of its own, in the world behind that. -/
theorem newb (w : World) (Y : Int) (B : UInt8) (hY : Y = (B.toNat : Int)) (t : TypeId) (H : Nat) (hH : H = w.heap.size) : 0 < [B].length → ∃ ad, some (⟨H, 0, none⟩ : Addr) = some ad ∧ ∀ j u, (bcells [B])[j]? = some u → (w.alloc (.cells #[.int .u8 Y] t)).cell? (ad.add j) = some u := by
  intro _
  rw [hY, hH]
  exact new1 w _ t (by omega)

theorem str_ext (s X : ByteArray) (l : List UInt8) (B : UInt8) (hX : X = ⟨(s.data.toList ++ l).toArray⟩) : X ++ (⟨#[B]⟩ : ByteArray) = ⟨(s.data.toList ++ (l ++ [B])).toArray⟩ := by
  rw [hX]; apply ByteArray.ext; simp

theorem div_next (n : Nat) (h : n % 8 = 7) : (n + 1) / 8 = n / 8 + 1 := by omega
theorem div_same (n : Nat) (h : n % 8 ≠ 7) : (n + 1) / 8 = n / 8 := by omega

set_option maxHeartbeats 1600000 in
theorem rPut_round (s : ByteArray) (p N K V T : Nat) (w : World) (hs : s.size ≤ 1048577) (hp : p < 2 ^ N) (hN : N ≤ 7) (hl : s.size ≤ 1048576) (hK : K ≤ 32) (hV : V < 2 ^ K) (hT : T = p + V * 2 ^ N) :
    Calls Try.prog 11 #[.agg #[.string s, .int .i64 p, .int .i64 N], .int .i64 K, .int .u64 V] w fun e w' => (e = .returned (if s.size + (N + K) / 8 ≤ 1048576 then 
      .tuple #[.agg #[.string ⟨(s.data.toList ++ emit T ((N + K) / 8)).toArray⟩, .int .i64 ((T / 256 ^ ((N + K) / 8) : Nat) : Int), .int .i64 (((N + K) % 8 : Nat) : Int)], .int .i64 0] else .tuple #[.agg #[.string ⟨#[]⟩, .int .i64 0, .int .i64 0], .int .i64 4])) ∧ Below w.heap.size w w' := by
  have hs' : s.size ≤ maxLen := by unfold maxLen; omega
  have HT := Lib.hid hT
  have hch : chk s.size p N = 0 := by
    unfold chk
    have e : (2 : Int) ^ (N : Int).toNat = ((2 ^ N : Nat) : Int) := by simp
    rw [if_neg]; rw [e]; omega
  clear hT
  have hsh : (V : Int) < IntKind.u64.wrap (2 ^ K) := by rw [u64pow K hK]; exact_mod_cast hV
  have HV := Lib.hid hV
  have Hp := Lib.hid hp
  clear hV hp
  obtain ⟨Rr, hRr⟩ : ∃ r : Value, r = (if s.size + (N + K) / 8 ≤ 1048576 then 
      .tuple #[.agg #[.string ⟨(s.data.toList ++ emit T ((N + K) / 8)).toArray⟩, .int .i64 ((T / 256 ^ ((N + K) / 8) : Nat) : Int), .int .i64 (((N + K) % 8 : Nat) : Int)], .int .i64 0] else .tuple #[.agg #[.string ⟨#[]⟩, .int .i64 0, .int .i64 0], .int .i64 4]) := ⟨_, rfl⟩
  rw [← hRr]
  have HRr := Lib.hid hRr
  clear hRr
  go_enter Try.func11, Try.ntmps11
  go_wp2_with (first
    | (go_at_call 13; refine (rcheck_any s p N _ hs').mono ?_; rintro e w1 ⟨rfl, hb1⟩; have hz1 := hb1.size))
  have hA := ((Blk.new w 23 [.string s, .int .i64 p, .int .i64 N]).alloc (.cells #[.string ⟨#[]⟩, .int .i64 0, .int .i64 0] 23)).belowS hb1
  have hR := (Blk.new' (w := w.alloc (.cells #[.string s, .int .i64 p, .int .i64 N] 23)) (H := w.heap.size + 1) (by simp) 23 [.string ⟨#[]⟩, .int .i64 0, .int .i64 0]).belowS hb1
  have hw1 : Below w.heap.size w w1 := Below.trans (by go_grown) (hb1.mono (by simp; omega))
  clear hb1 hz1
  go_loopg [9] K (fun q i wr => ∃ j : Nat, q + j = K ∧ i = .int .i64 j ∧ Hid (Blk wr w.heap.size 23 [.string ⟨(s.data.toList ++ emit T ((N + j) / 8)).toArray⟩, .int .i64 ((T % 2 ^ (N + j) / 256 ^ ((N + j) / 8) : Nat) : Int), .int .i64 (((N + j) % 8 : Nat) : Int)]) ∧
     Hid (Blk wr (w.heap.size + 1) 23 [.string ⟨#[]⟩, .int .i64 0, .int .i64 0]) ∧ Hid (Below w.heap.size w wr))
  case atStart =>
    refine ⟨0, rfl, rfl, ?_, hR, hw1⟩
    have e1 : (N + 0) / 8 = 0 := by omega
    have e2 : (N + 0) % 8 = N := by omega
    have e3 : T % 2 ^ (N + 0) / 256 ^ 0 = p := by
      rw [HT.out]; simp; exact Nat.mod_eq_of_lt Hp.out
    have e4 : (⟨(s.data.toList ++ emit T 0).toArray⟩ : ByteArray) = s := by simp [emit]
    rw [e1, e2, e3, e4]
    exact hA
  case round =>
    obtain ⟨j, hq, rfl, HA, HR, HB⟩ := hrel
    clear hA hR hw1
    obtain ⟨X, hX⟩ : ∃ X : ByteArray, X = ⟨(s.data.toList ++ emit T ((N + j) / 8)).toArray⟩ := ⟨_, rfl⟩
    obtain ⟨P, hP⟩ : ∃ P : Nat, P = T % 2 ^ (N + j) / 256 ^ ((N + j) / 8) := ⟨_, rfl⟩
    obtain ⟨M, hM⟩ : ∃ M : Nat, M = (N + j) % 8 := ⟨_, rfl⟩
    have hXs : X.size = s.size + (N + j) / 8 := by
      rw [hX]; show (List.toArray _).size = _; simp [emit_length]
    have hXb : X.size ≤ 1048700 := by omega
    have hPlt : P < 2 ^ M := by rw [hP, hM]; exact part_lt T (N + j)
    have hM8 : M < 8 := by omega
    have hP128 : P < 128 := by have := pow_le_of (show M ≤ 7 by omega); omega
    rw [← hX, ← hP, ← hM] at HA
    have HXs := Lib.hid hXs
    have HX := Lib.hid hX
    have HP := Lib.hid hP
    have HM := Lib.hid hM
    clear hX hP hM hXs hPlt
    have c0 := HA.out.cell 0 rfl
    have c1 := HA.out.cell 1 rfl
    have c2 := HA.out.cell 2 rfl
    have f0 := HA.out.frozen 0
    have f1 := HA.out.frozen 1
    have f2 := HA.out.frozen 2
    have r0 := HR.out.cell 0 rfl
    have r1 := HR.out.cell 1 rfl
    have r2 := HR.out.cell 2 rfl
    have g0 := HR.out.frozen 0
    have g1 := HR.out.frozen 1
    have g2 := HR.out.frozen 2
    have hAl := HA.out.lt
    have hRl := HR.out.lt
    by_cases hlt : j < K
    · obtain ⟨b, hb⟩ : ∃ b : Nat, b = V / 2 ^ j % 2 := ⟨_, rfl⟩
      have hbit := bit_rule V j (by have := HV.out; have := pow_le_of hK; omega)
      rw [← hb] at hbit
      have hb1 : b ≤ 1 := by omega
      have Hb := Lib.hid hb
      obtain ⟨D, hD⟩ : ∃ D : Nat, (2 : Int) ^ M = (D : Int) := ⟨2 ^ M, by simp⟩
      have hD1 : D = 2 ^ M := by have : (D : Int) = ((2 ^ M : Nat) : Int) := by rw [← hD]; simp
                                 omega
      have hD128 : D ≤ 128 := by have := pow_le_of (show M ≤ 7 by omega); omega
      have hbD : b * D ≤ 128 := by
        rcases (show b = 0 ∨ b = 1 by omega) with h | h <;> rw [h] <;> omega
      have HD := Lib.hid hD1
      clear hb hD1
      by_cases h7 : M = 7
      · have hD7 : D = 128 := by rw [HD.out, h7]
        have hM7 : ((M : Int) + 1 == 8) = true := by rw [h7]; rfl
        obtain ⟨B, hB⟩ : ∃ B : UInt8, B = UInt8.ofNat (P + b * 128) := ⟨_, rfl⟩
        have hBn : (P : Int) + b * 128 = (B.toNat : Int) := by rw [hB]; simp; omega
        have HB2 := Lib.hid hB
        clear hB
        go_wp2_with (with_reducible refine wpList_string_O (o := ⟨some 62, _, _, _, _, _⟩) rfl 42 9 (.tmp 61) rfl 5 _ _ _ [B] rfl Try.underlying42 Try.underlying5 Try.underlying9 rfl ?_ ?_)
        · refine newb _ _ B rfl _ _ ?_; simp
        go_wp2
        go_roundg (gk - 1)
        case measure => omega
        case rel => 
          have em : (N + j) % 8 = M := HM.out.symm
          have ej : N + (j + 1) = N + j + 1 := rfl
          have eb := bit_of p V N j T Hp.out HT.out
          have el := step_lo T (N + j)
          rw [← eb, ← Hb.out, ← HP.out, em, ← HD.out] at el
          rw [hD7] at el
          have e1 : X ++ (⟨#[B]⟩ : ByteArray) = ⟨(s.data.toList ++ emit T ((N + (j + 1)) / 8)).toArray⟩ := by
            rw [ej, div_next _ (em.trans h7), emit_succ, ← step_byte T (N + j) (em.trans h7), ← el, ← HB2.out]
            exact str_ext s X _ B HX.out
          have e2 : (0 : Int) = ((T % 2 ^ (N + (j + 1)) / 256 ^ ((N + (j + 1)) / 8) : Nat) : Int) := by
            rw [ej, step_zero T (N + j) (em.trans h7)]; rfl
          have e3 : (0 : Int) = (((N + (j + 1)) % 8 : Nat) : Int) := by omega
          refine ⟨j + 1, by omega, rfl, ?_, ?_, ?_⟩
          · rw [← e1, ← e2, ← e3]
            exact (((((HA.out.set 1 _).set 2 _).set 0 _).set 1 _).set 2 _).alloc _
          · exact (((((HR.out.far (by simp) _).far (by simp) _).far (by simp) _).far (by simp) _).far (by simp) _).alloc _
          · exact Lib.hid (by have HBo := HB.out; go_grown)
      · have hM7 : ((M : Int) + 1 == 8) = false := by simp; omega
        go_wp2
        go_roundg (gk - 1)
        case measure => omega
        case rel => 
          have em : (N + j) % 8 = M := HM.out.symm
          have ej : N + (j + 1) = N + j + 1 := rfl
          have eb := bit_of p V N j T Hp.out HT.out
          have el := step_lo T (N + j)
          rw [← eb, ← Hb.out, ← HP.out, em, ← HD.out] at el
          have h7' : (N + j) % 8 ≠ 7 := by omega
          have e1 : X = ⟨(s.data.toList ++ emit T ((N + (j + 1)) / 8)).toArray⟩ := by
            rw [ej, div_same _ h7']; exact HX.out
          have e2 : (P : Int) + b * D = ((T % 2 ^ (N + (j + 1)) / 256 ^ ((N + (j + 1)) / 8) : Nat) : Int) := by
            rw [ej, div_same _ h7', ← el]; simp
          have e3 : (M : Int) + 1 = (((N + (j + 1)) % 8 : Nat) : Int) := by omega
          refine ⟨j + 1, by omega, rfl, ?_, ?_, ?_⟩
          · rw [← e1, ← e2, ← e3]
            exact (HA.out.set 1 _).set 2 _
          · exact (HR.out.far (by simp) _).far (by simp) _
          · exact Lib.hid (by have HBo := HB.out; go_grown)
    · have ejK : j = K := by omega
      subst ejK
      have eT : T % 2 ^ (N + j) = T := by
        have h1 := Hp.out
        have h2 := HV.out
        have h3 : V * 2 ^ N + 2 ^ N ≤ 2 ^ j * 2 ^ N := by rw [← Nat.succ_mul]; exact Nat.mul_le_mul_right _ h2
        refine Nat.mod_eq_of_lt ?_
        rw [HT.out, Nat.add_comm N j, Nat.pow_add]; omega
      rw [eT] at HP
      have HBo := HB.out
      have hXl := HXs.out
      by_cases hq2 : s.size + (N + j) / 8 ≤ 1048576
      · have eR := HRr.out
        rw [if_pos hq2] at eR
        have hX1 : X.size ≤ 1048576 := by omega
        have ER := Lib.hid eR
        clear hXl eR
        go_wp2
        have eR := ER.out
        have e1 : X = ⟨(s.data.toList ++ emit T ((N + j) / 8)).toArray⟩ := HX.out
        have e2 : P = T / 256 ^ ((N + j) / 8) := HP.out
        have e3 : M = (N + j) % 8 := HM.out
        rw [← e1, ← e2, ← e3] at eR
        refine bodyPost_ret (v := .tuple #[.agg #[.string X, .int .i64 P, .int .i64 M], .int .i64 0]) (results_2 rfl (res_cell (t := 23) (cs := [.string X, .int .i64 P, .int .i64 M]) rfl (((HR.out.set 0 _).set 1 _).set 2 _) Try.underlying23 rfl (by kernel_rfl)) rfl) rfl ⟨congrArg _ eR.symm, ?_⟩
        go_grown
      · have eR := HRr.out
        rw [if_neg hq2] at eR
        have hX1 : 1048576 < X.size := by omega
        have ER := Lib.hid eR
        clear hXl eR
        go_wp2
        have eR := ER.out
        refine bodyPost_ret (v := .tuple #[.agg #[.string ⟨#[]⟩, .int .i64 0, .int .i64 0], .int .i64 4]) (results_2 rfl (res_cell (t := 23) (cs := [.string ⟨#[]⟩, .int .i64 0, .int .i64 0]) rfl (((HR.out.set 0 _).set 1 _).set 2 _) Try.underlying23 rfl (by kernel_rfl)) rfl) rfl ⟨congrArg _ eR.symm, ?_⟩
        go_grown
end Go.Proofs.Ytlmoenjggggpkaa
