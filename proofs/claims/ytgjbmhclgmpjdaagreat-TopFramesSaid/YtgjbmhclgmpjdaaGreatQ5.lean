/-
  A part of the proof of a statement of a chapter's seat; conditions: stated at each theorem.
-/
import Derived.Test.YtgjbmhclgmpjdaaGreatQ4
set_option linter.unusedVariables false
set_option linter.unusedSectionVars false
set_option linter.unusedSimpArgs false
set_option linter.unusedVariables false
set_option maxRecDepth 100000
set_option maxHeartbeats 8000000
namespace Go.Proofs.YtgjbmhclgmpjdaaGreat
open Go.Az Go
theorem mod_any (n m : Int) (h1 : 1 ≤ m) (h2 : m ≤ 9223372036854775807) : ACalls Tryz.prog 6 [I n, I m] [] (fun r _ => r = I (n % m) ∧ r.sc 0 = true) := by
  have h3 := Int.tmod_lt_of_pos n (show 0 < m by omega)
  have h4 := Int.lt_tmod_of_pos n (show 0 < m by omega)
  have h5 : n.tmod m < 0 → n.tmod m + m = n % m := tmod_lo (by omega)
  have h6 : ¬ n.tmod m < 0 → n.tmod m = n % m := tmod_hi (by omega)
  refine acalls_of_wk hm Tryz.func6 rfl ?_
  simp only [Tryz.ntmps6, List.length_cons, List.length_nil, Nat.reduceAdd, Nat.reduceSub, List.reduceReplicate, List.cons_append, List.nil_append]
  show wk _ _ none _ _ ⟨_, []⟩ _
  focus
    with_reducible refine s_seq ?_
    with_reducible refine s_reg ?_
    refine sassign ?_
    simp only [pu', p0', c1', c0', i1', z0', b8_nat]
    with_reducible refine s_end ?_
    with_reducible refine s_then ?_
    with_reducible refine s_seq ?_
    with_reducible refine s_seq ?_
    with_reducible refine s_reg ?_
    refine smove ?_
    simp only [pu', p0', c1', c0', i1', z0', b8_nat]
    refine sLt (fun hb => ?_) (fun hb => ?_)
    replace hb := dT' hb
    (exfalso; omega)
    replace hb := dF' hb
    simp only [pu', p0', c1', c0', i1', z0', b8_nat]
    with_reducible refine s_end ?_
    with_reducible refine s_then ?_
    refine sCF ?_
    with_reducible refine s_skip ?_
    with_reducible refine s_then ?_
    with_reducible refine s_seq ?_
    with_reducible refine s_reg ?_
    refine smove ?_
    simp only [pu', p0', c1', c0', i1', z0', b8_nat]
    refine smove ?_
    simp only [pu', p0', c1', c0', i1', z0', b8_nat]
    refine stmod ?_
    simp only [pu', p0', c1', c0', i1', z0', b8_nat]
    refine sassign ?_
    simp only [pu', p0', c1', c0', i1', z0', b8_nat]
    with_reducible refine s_end ?_
    with_reducible refine s_then ?_
    with_reducible refine s_seq ?_
    with_reducible refine s_seq ?_
    with_reducible refine s_reg ?_
    refine smove ?_
    simp only [pu', p0', c1', c0', i1', z0', b8_nat]
    refine sLt (fun hb => ?_) (fun hb => ?_)
    replace hb := dT' hb
    simp only [pu', p0', c1', c0', i1', z0', b8_nat]
    with_reducible refine s_end ?_
    with_reducible refine s_then ?_
    refine sCT ?_
    with_reducible refine s_reg ?_
    refine smove ?_
    simp only [pu', p0', c1', c0', i1', z0', b8_nat]
    refine smove ?_
    simp only [pu', p0', c1', c0', i1', z0', b8_nat]
    refine sadd ?_
    simp only [pu', p0', c1', c0', i1', z0', b8_nat]
    refine sassign ?_
    simp only [pu', p0', c1', c0', i1', z0', b8_nat]
    with_reducible refine s_end ?_
    with_reducible refine s_then ?_
    with_reducible refine s_seq ?_
    with_reducible refine s_reg ?_
    refine smove ?_
    simp only [pu', p0', c1', c0', i1', z0', b8_nat]
    refine sassign ?_
    simp only [pu', p0', c1', c0', i1', z0', b8_nat]
    with_reducible refine s_end ?_
    with_reducible refine s_then ?_
    with_reducible refine s_ret ?_
    rotate_left 1
    replace hb := dF' hb
    simp only [pu', p0', c1', c0', i1', z0', b8_nat]
    with_reducible refine s_end ?_
    with_reducible refine s_then ?_
    refine sCF ?_
    with_reducible refine s_skip ?_
    with_reducible refine s_then ?_
    with_reducible refine s_seq ?_
    with_reducible refine s_reg ?_
    refine smove ?_
    simp only [pu', p0', c1', c0', i1', z0', b8_nat]
    refine sassign ?_
    simp only [pu', p0', c1', c0', i1', z0', b8_nat]
    with_reducible refine s_end ?_
    with_reducible refine s_then ?_
    with_reducible refine s_ret ?_
    rotate_left 1
  all_goals try with_reducible refine w_n ?_
  all_goals refine w_1 rfl (by first | exact v_t (by rfl) | exact v_c1 (C1.p) (by rfl) (HA.p) (by rfl) | exact v_cF (CA.p) (by rfl) (HA.p) (by rfl)) ?_
  · rw [h5 (by assumption)]; exact ⟨rfl, rfl⟩
  · rw [h6 (by assumption)]; exact ⟨rfl, rfl⟩
theorem eq_27 (a b c d : Int) : bin Tryz.prog .eql 27 (.agg [I a, I b]) (.agg [I c, I d]) = some (B (a == c && (b == d && true))) := by kernel_rfl
theorem ne_27 (a b c d : Int) : bin Tryz.prog .neq 27 (.agg [I a, I b]) (.agg [I c, I d]) = some (B (!(a == c && (b == d && true)))) := by kernel_rfl
instance (a b c d : Int) : BN Tryz.prog .eql 27 (.agg [I a, I b]) (.agg [I c, I d]) (a == c && (b == d && true)) := ⟨eq_27 a b c d⟩
instance (a b c d : Int) : BN Tryz.prog .neq 27 (.agg [I a, I b]) (.agg [I c, I d]) (!(a == c && (b == d && true))) := ⟨ne_27 a b c d⟩
/-! ### Numbers written and read -/
theorem num4_le4 (n : Int) (h0 : 0 ≤ n) (h1 : n < 4294967296) (r : List UInt8) : num4 (le4 n ++ r) = n := by
  show (((b8 n).toNat : Nat) : Int) + ((b8 (n / 2 ^ 8)).toNat : Nat) * 2 ^ 8 + ((b8 (n / 2 ^ 16)).toNat : Nat) * 2 ^ 16 + ((b8 (n / 2 ^ 24)).toNat : Nat) * 2 ^ 24 = n
  rw [b8_toNat, b8_toNat, b8_toNat, b8_toNat]
  omega
theorem b8_eq {n : Int} {b : UInt8} (h : n % 256 = (b.toNat : Nat)) : b8 n = b := by
  have := b8_toNat n
  exact UInt8.toNat_inj.1 (by omega)
theorem le4_num4 (l : List UInt8) (h : 4 ≤ l.length) : le4 (num4 l) = l.take 4 := by
  match l, h with
  | a :: b :: c :: d :: r, _ =>
    have h0 := UInt8.toNat_lt a
    have h1 := UInt8.toNat_lt b
    have h2 := UInt8.toNat_lt c
    have h3 := UInt8.toNat_lt d
    have e : num4 (a :: b :: c :: d :: r) = (a.toNat : Nat) + (b.toNat : Nat) * 2 ^ 8 + (c.toNat : Nat) * 2 ^ 16 + (d.toNat : Nat) * 2 ^ 24 := rfl
    show [b8 _, b8 _, b8 _, b8 _] = [a, b, c, d]
    rw [e, b8_eq (b := a) (by omega), b8_eq (b := b) (by omega), b8_eq (b := c) (by omega), b8_eq (b := d) (by omega)]
theorem le4_kind : ∀ j : Fin 16, le4 (407710288 + (j.val : Int)) = [b8 (80 + (j.val : Int)), 42, 77, 24] := by decide
theorem le4_k (k : Int) (h0 : 0 ≤ k) (h1 : k < 16) : le4 (407710288 + k) = [b8 (80 + k), 42, 77, 24] := by
  have := le4_kind ⟨k.toNat, by omega⟩
  simpa [Int.toNat_of_nonneg h0] using this
theorem wrt_len (k : Int) (t : List UInt8) : (wrt k t).length = t.length + 8 := by
  rw [wrt, List.length_append, List.length_append, le4_len, le4_len]; omega
theorem drop4_wrt (k : Int) (t r : List UInt8) : (wrt k t ++ r).drop 4 = le4 t.length ++ (t ++ r) := by
  rw [wrt, List.append_assoc, List.append_assoc]; rfl
theorem num_wrt (k : Int) (h0 : 0 ≤ k) (h1 : k < 16) (t r : List UInt8) : num4 (wrt k t ++ r) = 407710288 + k := by
  rw [wrt, List.append_assoc, List.append_assoc]
  exact num4_le4 _ (by omega) (by omega) _
/-- (A) What was written is read. -/
theorem nxt_wrt {k : Int} (h0 : 0 ≤ k) (h1 : k < 16) {t b m : List UInt8} (ht : t.length ≤ 1048576) : nxt (b ++ wrt k t ++ m) b.length = ⟨k, t, 0, 0, b.length + (wrt k t).length⟩ := by
  have hR : wrt k t ++ m = (b ++ wrt k t ++ m).drop (b.length : Int).toNat := by
    rw [Int.toNat_natCast, List.append_assoc, List.drop_left]
  have hn := num_wrt k h0 h1 t m
  have hd : num4 ((wrt k t ++ m).drop 4) = t.length := by rw [drop4_wrt]; exact num4_le4 _ (by omega) (by omega) _
  have hl : (wrt k t ++ m).length = t.length + 8 + m.length := by rw [List.length_append, wrt_len]
  rw [nx_f hR (bg_1 (by omega) (by rw [hn]; omega)) (by rw [hd, hl]; omega), hn, hd, wrt_len]
  have e : (8 + (t.length : Int)).toNat = (wrt k t).length := by rw [wrt_len]; omega
  rw [e, List.take_left]
  have e2 : (wrt k t).drop 8 = t := rfl
  rw [e2]
  congr 1
  · omega
  · omega
end Go.Proofs.YtgjbmhclgmpjdaaGreat
