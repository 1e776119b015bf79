/-
  A part of the proof of a statement of a chapter's seat; conditions: stated at each theorem.
-/
import Derived.Test.YtgbddbiimffplaaN5
set_option linter.unusedVariables false
set_option linter.unusedSectionVars false
set_option linter.unusedSimpArgs false
set_option linter.unusedVariables false
set_option maxRecDepth 100000
set_option maxHeartbeats 8000000
namespace Go.Proofs.Ytgbddbiimffplaa
open Go.Az Go
/-! ### The cells that are taken, as a map -/
def rarM (z n : Nat) : List (Int × AV) := (List.range n).map fun (j : Nat) => ((z : Int) - 1 - (j : Int), B true)
theorem imGet_rar (z : Nat) (k : Int) : ∀ (l : List Nat), imGet (l.map fun (j : Nat) => ((z : Int) - 1 - (j : Int), B true)) k = if ∃ j ∈ l, k = (z : Int) - 1 - j then some (B true) else none
  | [] => by simp [imGet]
  | a :: l => by
    rw [List.map_cons, imGet, imGet_rar z k l]
    by_cases h : k = (z : Int) - 1 - a
    · rw [if_pos h, if_pos ⟨a, by simp, h⟩]
    · rw [if_neg h]
      by_cases h2 : ∃ j ∈ l, k = (z : Int) - 1 - j
      · obtain ⟨j, h3, h4⟩ := h2
        rw [if_pos ⟨j, h3, h4⟩, if_pos ⟨j, by simp [h3], h4⟩]
      · rw [if_neg h2, if_neg]
        rintro ⟨j, h3, h4⟩
        rcases List.mem_cons.1 h3 with h5 | h5
        · subst h5; exact h h4
        · exact h2 ⟨j, h5, h4⟩
theorem rarM_get {z n : Nat} (k : Int) (hn : n ≤ z) (h0 : 0 ≤ k) (h1 : k < z) : imGet (rarM z n) k = if (z : Int) - n ≤ k then some (B true) else none := by
  rw [rarM, imGet_rar]
  by_cases h : (z : Int) - n ≤ k
  · rw [if_pos h, if_pos ⟨((z : Int) - 1 - k).toNat, by simp only [List.mem_range]; omega, by omega⟩]
  · rw [if_neg h, if_neg]
    rintro ⟨j, h3, h4⟩
    simp only [List.mem_range] at h3
    omega
theorem imSet_new {k : Int} {v : AV} : ∀ {m : List (Int × AV)}, imGet m k = none → imSet m k v = m ++ [(k, v)]
  | [], _ => rfl
  | e :: r, h => by
    rw [imGet] at h
    by_cases hk : k = e.1
    · rw [if_pos hk] at h; cases h
    · rw [if_neg hk] at h
      rw [imSet, if_neg hk, imSet_new h]; rfl
theorem rarM_set {z n : Nat} (hn : n < z) : imSet (rarM z n) ((z : Int) - 1 - n) (B true) = rarM z (n + 1) := by
  rw [imSet_new (by rw [rarM_get _ (by omega) (by omega) (by omega), if_neg (by omega)]), rarM, rarM, List.range_succ, List.map_append]
  rfl
theorem cmp_73o : cmpOf Try.prog 73 = some (B false) := by kernel_rfl
theorem cmp_73 : CMP Try.prog 73 (B false) := cmp_of cmp_73o
theorem and_z {n : Nat} {z : Nat} (h : n ≤ 12) (hz : 2 ^ n = z) (x : Nat) (hx : x ≤ 1000000) : andI .i64 (x : Int) ((z : Int) - 1) = ((x % z : Nat) : Int) := by
  have hp : 0 < 2 ^ n := Nat.pow_pos (by omega)
  have hq : (2 : Nat) ^ n ≤ 2 ^ 12 := Nat.pow_le_pow_right (by omega) h
  have h2 : (z : Int) - 1 = ((2 ^ n - 1 : Nat) : Int) := by omega
  unfold andI
  rw [h2]
  show IntKind.i64.wrap ((BitVec.ofInt 64 (x : Int) &&& BitVec.ofInt 64 ((2 ^ n - 1 : Nat) : Int)).toNat : Int) = _
  rw [BitVec.ofInt_natCast, BitVec.ofInt_natCast, BitVec.toNat_and, BitVec.toNat_ofNat, BitVec.toNat_ofNat, Nat.mod_eq_of_lt (show x < 2 ^ 64 by omega), Nat.mod_eq_of_lt (show 2 ^ n - 1 < 2 ^ 64 by omega), Nat.and_two_pow_sub_one_eq_mod, hz]
  have hm : x % z ≤ x := Nat.mod_le _ _
  exact wrap_i64_in (by omega) (by omega)
structure GvA where
  k : Nat
  G : Hp
/-- The cells and their symbols are given in this order: the rare ones, then the others. -/
theorem given38 {h G0 : Hp} (iy ib : Nat) (n z : Nat) (s : AV) (ps : List Int) (Q : List Int → List Pc) (hz : 2 ^ n = z) (h5 : 5 ≤ n) (h12 : n ≤ 12) (hok : DistOk z ps) (hlen : ps.length ≤ 256) [a : EI h s ps]
    (hb : ∀ o, MemC (Q o) ib (.cells [I n, s] 24 true)) (S0 : Sep h G0 (Q (List.replicate z 0)))
    (hy : ∀ (o : List Int) (c : Int) (k : Nat) (X : Hp) (E : List Pc), o.length = z → 0 ≤ c → c < z → Sep h X (Q o ++ E) → AYld Try.prog iy [I c, I k] X (fun r h' => r = B true ∧ Sep h h' (Q (o.set c.toNat (k : Int)) ++ E))) :
    ACalls Try.prog 51 [.yld iy, .ptr ib 0] G0 (fun _ h' => ∃ E, Sep h h' (Q (sprd z ps) ++ E)) := by
  have pss := a.p.sl
  have e := pow_z n
  have hzz := okZ_pos hok.okz
  have hs := hok.split
  have hst := stp_int z
  have hgd := fun (k : Nat) (hk : k < ps.length) => hok.ge _ (getD_mem hk)
  have c34 := step34 n h5 h12
  rw [hz] at e c34
  refine acalls_of_wk hm Try.func51 rfl ?_
  simp only [Try.ntmps51, List.length_cons, List.length_nil, Nat.reduceAdd, Nat.reduceSub, List.reduceReplicate, List.cons_append, List.nil_append]
  show wk _ _ none _ _ ⟨_, []⟩ _
  with_reducible refine s_seq ?_
  with_reducible refine s_reg ?_
  refine sfad ?_
  simp only [pu', p0', c1', c0', i1', z0', b8_nat]
  refine sload1 ?_
  simp only [pu', p0', c1', c0', i1', z0', b8_nat]
  refine sshl1 ?_
  simp only [pu', p0', c1', c0', i1', z0', b8_nat]
  refine sassign ?_
  simp only [pu', p0', c1', c0', i1', z0', b8_nat]
  with_reducible refine s_end ?_
  with_reducible refine s_then ?_
  with_reducible refine s_seq ?_
  with_reducible refine s_reg ?_
  (refine s_mkm ?_; simp only [Fr.put, List.set_cons_succ, List.set_cons_zero, Int.toNat_natCast, Nat.zero_add])
  refine sassign ?_
  simp only [pu', p0', c1', c0', i1', z0', b8_nat]
  with_reducible refine s_end ?_
  with_reducible refine s_then ?_
  with_reducible refine s_seq ?_
  with_reducible refine s_reg ?_
  refine smove ?_
  simp only [pu', p0', c1', c0', i1', z0', b8_nat]
  refine ssub ?_
  simp only [pu', p0', c1', c0', i1', z0', b8_nat]
  refine sassign ?_
  simp only [pu', p0', c1', c0', i1', z0', b8_nat]
  with_reducible refine s_end ?_
  with_reducible refine s_then ?_
  with_reducible refine s_seq ?_
  with_reducible refine s_seq ?_
  with_reducible refine s_reg ?_
  refine sfad ?_
  simp only [pu', p0', c1', c0', i1', z0', b8_nat]
  refine sload1 ?_
  simp only [pu', p0', c1', c0', i1', z0', b8_nat]
  refine slenE ?_
  simp only [pu', p0', c1', c0', i1', z0', b8_nat]
  refine smove ?_
  simp only [pu', p0', c1', c0', i1', z0', b8_nat]
  with_reducible refine s_end ?_
  with_reducible refine s_then ?_
  with_reducible refine s_block ?_
  have SS : Sep h (G0 ++ [mpO []]) (Q (List.replicate z 0) ++ [pcC G0.length (mpO [])]) := S0.push _
  refine s_loop hm (fun (b : RoA) s' => [.yld iy, .ptr ib 0, s' 2, I (2 ^ n), .mp G0.length, I ((z : Int) - 1 - (rarF (ps.take b.k) 0).length), s' 6, s' 7, s' 8, s' 9, s' 10, s' 11, s' 12, s' 13, s' 14, s' 15, s' 16, s' 17, s, I ps.length, I b.k, s' 21, s' 22, s' 23, s' 24, s' 25, s' 26, s' 27, s' 28, s' 29, s' 30, s' 31, s' 32, s' 33, s' 34, s' 35, s' 36, s' 37, s' 38, s' 39, s' 40, s' 41, s' 42, s' 43, s' 44, s' 45, s' 46, s' 47, s' 48, s' 49, s' 50, s' 51, s' 52, s' 53, s' 54, s' 55, s' 56, s' 57, s' 58, s' 59, s' 60, s' 61, s' 62, s' 63, s' 64, s' 65, s' 66, s' 67, s' 68, s' 69, s' 70, s' 71, s' 72, s' 73, s' 74]) (fun b => b.G) (fun b => b.k ≤ ps.length ∧ Sep h b.G (Q (rarO z (rarF (ps.take b.k) 0)) ++ [pcC G0.length (mpO (rarM z (rarF (ps.take b.k) 0).length))])) (fun b => ps.length - b.k) ⟨0, _⟩ (by rw [e]; simp only [List.take_zero, rarF, List.length_nil]; rw [show (z : Int) - 1 - ((0 : Nat) : Int) = (z : Int) - 1 by omega]; rfl) rfl ⟨Nat.zero_le _, ?_⟩ ?_
  · simp only [List.take_zero, rarF, List.length_nil, rarO_nil]
    exact SS
  clear SS
  rintro ⟨k, G⟩ s' ⟨hk, S1⟩
  simp only [] at hk S1 ⊢
  have hr := rar_len hok k
  have hr1 := rar_len hok (k + 1)
  have hl1 := rarO_len (z := z) (rs := rarF (ps.take k) 0) (by omega)
  have hg := hgd k
  have ht := rarF_take ps 0 k
  have hx : ((z : Int) - 1 - ((rarF (ps.take k) 0).length : Int)).toNat = z - 1 - (rarF (ps.take k) 0).length := by omega
  by_cases hkl : k < ps.length
  · have ht' := ht hkl
    by_cases hv : ps.getD k 0 = -1
    · rw [if_pos hv, Int.zero_add] at ht'
      have hlen1 : (rarF (ps.take k) 0).length < z := by rw [ht', List.length_append, List.length_singleton] at hr1; omega
      have hset1 := rarO_set hlen1 (k : Int)
      have hset2 := rarM_set hlen1
      focus
        with_reducible refine s_seq ?_
        with_reducible refine s_reg ?_
        refine sLt (fun hb => ?_) (fun hb => ?_)
        replace hb := dT' hb
        simp only [pu', p0', c1', c0', i1', z0', b8_nat]
        with_reducible refine s_end ?_
        with_reducible refine s_then ?_
        with_reducible refine s_seq ?_
        refine sCT ?_
        with_reducible refine s_skip ?_
        with_reducible refine s_then ?_
        with_reducible refine s_seq ?_
        with_reducible refine s_block ?_
        with_reducible refine s_seq ?_
        with_reducible refine s_reg ?_
        refine smove ?_
        simp only [pu', p0', c1', c0', i1', z0', b8_nat]
        refine sidxE ?_
        simp only [pu', p0', c1', c0', i1', z0', b8_nat]
        refine sloadE1 ?_
        simp only [pu', p0', c1', c0', i1', z0', b8_nat]
        refine sassign ?_
        simp only [pu', p0', c1', c0', i1', z0', b8_nat]
        refine sassign ?_
        simp only [pu', p0', c1', c0', i1', z0', b8_nat]
        with_reducible refine s_end ?_
        with_reducible refine s_then ?_
        with_reducible refine s_seq ?_
        with_reducible refine s_reg ?_
        refine smove ?_
        simp only [pu', p0', c1', c0', i1', z0', b8_nat]
        refine sEq (fun hb => ?_) (fun hb => ?_)
        replace hb := dT' hb
        simp only [pu', p0', c1', c0', i1', z0', b8_nat]
        with_reducible refine s_end ?_
        with_reducible refine s_then ?_
        refine sCT ?_
        with_reducible refine s_seq ?_
        with_reducible refine s_reg ?_
        refine smove ?_
        simp only [pu', p0', c1', c0', i1', z0', b8_nat]
        refine smove ?_
        simp only [pu', p0', c1', c0', i1', z0', b8_nat]
        (refine s_mset (m := rarM z (rarF (ps.take k) 0).length) cmp_73 inferInstance ?_; rw [hset2]; simp only [Fr.put, List.set_cons_succ, List.set_cons_zero, Int.toNat_natCast, Nat.zero_add])
        with_reducible refine s_end ?_
        with_reducible refine s_then ?_
        with_reducible refine s_seq ?_
        with_reducible refine s_seq ?_
        with_reducible refine s_reg ?_
        refine smove ?_
        simp only [pu', p0', c1', c0', i1', z0', b8_nat]
        refine smove ?_
        simp only [pu', p0', c1', c0', i1', z0', b8_nat]
        refine smove ?_
        simp only [pu', p0', c1', c0', i1', z0', b8_nat]
        rotate_left 1
        replace hb := dF' hb
        exact absurd (by with_reducible assumption) hb
        replace hb := dF' hb
        (exfalso; omega)
      have S2 : Sep h (G.set G0.length (mpO (rarM z ((rarF (ps.take k) 0).length + 1)))) (Q (rarO z (rarF (ps.take k) 0)) ++ [pcC G0.length (mpO (rarM z ((rarF (ps.take k) 0).length + 1)))]) := inferInstance
      refine sY (hx := rfl) ((hy _ _ k _ _ hl1 (by omega) (by omega) S2).mono ?_)
      rintro r X _ ⟨rfl, S3⟩
      simp only [Fr.put, List.set_cons_succ, List.set_cons_zero, Int.toNat_natCast, Nat.zero_add]
      rw [hx, hset1, ← ht', show (rarF (ps.take k) 0).length + 1 = (rarF (ps.take (k + 1)) 0).length by rw [ht', List.length_append]; rfl] at S3
      refine snotT ?_
      simp only [pu', p0', c1', c0', i1', z0', b8_nat]
      with_reducible refine s_end ?_
      with_reducible refine s_then ?_
      refine sCF ?_
      with_reducible refine s_skip ?_
      with_reducible refine s_then ?_
      with_reducible refine s_reg ?_
      refine smove ?_
      simp only [pu', p0', c1', c0', i1', z0', b8_nat]
      refine ssub ?_
      simp only [pu', p0', c1', c0', i1', z0', b8_nat]
      refine sassign ?_
      simp only [pu', p0', c1', c0', i1', z0', b8_nat]
      with_reducible refine s_end ?_
      with_reducible refine s_blkN ?_
      with_reducible refine s_then ?_
      with_reducible refine s_reg ?_
      refine sadd ?_
      simp only [pu', p0', c1', c0', i1', z0', b8_nat]
      refine smove ?_
      simp only [pu', p0', c1', c0', i1', z0', b8_nat]
      with_reducible refine s_end ?_
      refine l_next ⟨k + 1, _⟩ ⟨by simp only []; omega, S3⟩ (by simp only []; omega) (by
        simp only []
        rw [show (z : Int) - 1 - ((rarF (ps.take (k + 1)) 0).length : Int) = (z : Int) - 1 - ((rarF (ps.take k) 0).length : Int) - 1 by rw [ht', List.length_append, List.length_singleton]; push_cast; omega]
        rfl) rfl
    · rw [if_neg hv, List.append_nil] at ht'
      focus
        with_reducible refine s_seq ?_
        with_reducible refine s_reg ?_
        refine sLt (fun hb => ?_) (fun hb => ?_)
        replace hb := dT' hb
        simp only [pu', p0', c1', c0', i1', z0', b8_nat]
        with_reducible refine s_end ?_
        with_reducible refine s_then ?_
        with_reducible refine s_seq ?_
        refine sCT ?_
        with_reducible refine s_skip ?_
        with_reducible refine s_then ?_
        with_reducible refine s_seq ?_
        with_reducible refine s_block ?_
        with_reducible refine s_seq ?_
        with_reducible refine s_reg ?_
        refine smove ?_
        simp only [pu', p0', c1', c0', i1', z0', b8_nat]
        refine sidxE ?_
        simp only [pu', p0', c1', c0', i1', z0', b8_nat]
        refine sloadE1 ?_
        simp only [pu', p0', c1', c0', i1', z0', b8_nat]
        refine sassign ?_
        simp only [pu', p0', c1', c0', i1', z0', b8_nat]
        refine sassign ?_
        simp only [pu', p0', c1', c0', i1', z0', b8_nat]
        with_reducible refine s_end ?_
        with_reducible refine s_then ?_
        with_reducible refine s_seq ?_
        with_reducible refine s_reg ?_
        refine smove ?_
        simp only [pu', p0', c1', c0', i1', z0', b8_nat]
        refine sEq (fun hb => ?_) (fun hb => ?_)
        replace hb := dT' hb
        (exfalso; omega)
        replace hb := dF' hb
        simp only [pu', p0', c1', c0', i1', z0', b8_nat]
        with_reducible refine s_end ?_
        with_reducible refine s_then ?_
        refine sCF ?_
        with_reducible refine s_skip ?_
        with_reducible refine s_blkN ?_
        with_reducible refine s_then ?_
        with_reducible refine s_reg ?_
        refine sadd ?_
        simp only [pu', p0', c1', c0', i1', z0', b8_nat]
        refine smove ?_
        simp only [pu', p0', c1', c0', i1', z0', b8_nat]
        with_reducible refine s_end ?_
        rotate_left 1
        replace hb := dF' hb
        (exfalso; omega)
      refine l_next ⟨k + 1, _⟩ ⟨by simp only []; omega, by simp only []; rw [ht']; exact S1⟩ (by simp only []; omega) (by
        simp only []
        rw [ht']
        rfl) rfl
  · rw [List.take_of_length_le (by omega)] at S1
    clear hr hr1 hl1 hg ht hx
    have hMg := fun (c : Nat) (hc : c < z) => rarM_get (z := z) (n := (rarF ps 0).length) (c : Int) (by omega) (by omega) (by omega)
    with_reducible refine s_seq ?_
    with_reducible refine s_reg ?_
    refine sLt (fun hb => ?_) (fun hb => ?_)
    replace hb := dT' hb
    (exfalso; omega)
    replace hb := dF' hb
    simp only [pu', p0', c1', c0', i1', z0', b8_nat]
    with_reducible refine s_end ?_
    with_reducible refine s_then ?_
    with_reducible refine s_seq ?_
    refine sCF ?_
    with_reducible refine s_exit ?_
    with_reducible refine s_thenE ?_
    with_reducible refine l_exit ?_
    with_reducible refine s_blkE ?_
    with_reducible refine s_then ?_
    with_reducible refine s_seq ?_
    with_reducible refine s_reg ?_
    refine sassign ?_
    simp only [pu', p0', c1', c0', i1', z0', b8_nat]
    with_reducible refine s_end ?_
    with_reducible refine s_then ?_
    with_reducible refine s_seq ?_
    with_reducible refine s_reg ?_
    refine sfad ?_
    simp only [pu', p0', c1', c0', i1', z0', b8_nat]
    refine sload1 ?_
    simp only [pu', p0', c1', c0', i1', z0', b8_nat]
    refine slenE ?_
    simp only [pu', p0', c1', c0', i1', z0', b8_nat]
    refine smove ?_
    simp only [pu', p0', c1', c0', i1', z0', b8_nat]
    with_reducible refine s_end ?_
    with_reducible refine s_then ?_
    with_reducible refine s_block ?_
    refine s_loop hm (fun (b : RoB) s' => [.yld iy, .ptr ib 0, s' 2, I (2 ^ n), .mp G0.length, s' 5, s' 6, s' 7, I (posN z b.t), s' 9, s' 10, s' 11, s' 12, s' 13, s' 14, s' 15, s' 16, s' 17, s' 18, s' 19, s' 20, s' 21, s' 22, s' 23, s' 24, s' 25, s' 26, s' 27, s' 28, s' 29, s' 30, s' 31, s' 32, s' 33, s' 34, s' 35, s' 36, s' 37, s, I ps.length, I b.i, s' 41, s' 42, s' 43, s' 44, s' 45, s' 46, s' 47, s' 48, s' 49, s' 50, s' 51, s' 52, s' 53, s' 54, s' 55, s' 56, s' 57, s' 58, s' 59, s' 60, s' 61, s' 62, s' 63, s' 64, s' 65, s' 66, s' 67, s' 68, s' 69, s' 70, s' 71, s' 72, s' 73, s' 74]) (fun b => b.G) (fun b => b.i ≤ ps.length ∧ Wlk z ps b.i 0 b.t ∧ Sep h b.G (Q (ofS z ps b.i 0 b.t) ++ [pcC G0.length (mpO (rarM z (rarF ps 0).length))])) (fun b => ps.length - b.i) ⟨0, 0, _⟩ (by rw [pos_zero]; rfl) rfl ⟨Nat.zero_le _, Wlk.zero, S1⟩ ?_
    clear S1 hk
    rintro ⟨i, t, G⟩ s' ⟨hi, W1, S1⟩
    simp only [] at hi W1 S1 ⊢
    have hg := hgd i
    by_cases hil : i < ps.length
    · have hil' : (i : Int) < ps.length := by omega
      have hsum := hok.sum
      have hpl := pts_le ps _ (getD_mem hil)
      focus
        with_reducible refine s_seq ?_
        with_reducible refine s_reg ?_
        refine sLt (fun hb => ?_) (fun hb => ?_)
        replace hb := dT' hb
        simp only [pu', p0', c1', c0', i1', z0', b8_nat]
        with_reducible refine s_end ?_
        with_reducible refine s_then ?_
        with_reducible refine s_seq ?_
        refine sCT ?_
        with_reducible refine s_skip ?_
        with_reducible refine s_then ?_
        with_reducible refine s_seq ?_
        with_reducible refine s_block ?_
        with_reducible refine s_seq ?_
        with_reducible refine s_reg ?_
        refine smove ?_
        simp only [pu', p0', c1', c0', i1', z0', b8_nat]
        refine sidxE ?_
        simp only [pu', p0', c1', c0', i1', z0', b8_nat]
        refine sloadE1 ?_
        simp only [pu', p0', c1', c0', i1', z0', b8_nat]
        refine sassign ?_
        simp only [pu', p0', c1', c0', i1', z0', b8_nat]
        refine sassign ?_
        simp only [pu', p0', c1', c0', i1', z0', b8_nat]
        with_reducible refine s_end ?_
        with_reducible refine s_then ?_
        with_reducible refine s_seq ?_
        with_reducible refine s_reg ?_
        refine smove ?_
        simp only [pu', p0', c1', c0', i1', z0', b8_nat]
        refine smax ?_
        simp only [pu', p0', c1', c0', i1', z0', b8_nat]
        refine smove ?_
        simp only [pu', p0', c1', c0', i1', z0', b8_nat]
        with_reducible refine s_end ?_
        with_reducible refine s_then ?_
        with_reducible refine s_block ?_
        rotate_left 1
        replace hb := dF' hb
        exact absurd (by with_reducible assumption) hb
      refine s_loop hm (fun (b : RoC) s' => [.yld iy, .ptr ib 0, s' 2, I (2 ^ n), .mp G0.length, s' 5, s' 6, s' 7, I (posN z b.t), I i, s' 10, s' 11, s' 12, s' 13, s' 14, s' 15, s' 16, s' 17, s' 18, s' 19, s' 20, s' 21, s' 22, s' 23, s' 24, s' 25, s' 26, s' 27, s' 28, s' 29, s' 30, s' 31, s' 32, s' 33, s' 34, s' 35, s' 36, s' 37, s, I ps.length, I i, s' 41, s' 42, s' 43, s' 44, s' 45, I (if ps.getD i 0 < 0 then 0 else ps.getD i 0), I b.j, s' 48, s' 49, s' 50, s' 51, s' 52, s' 53, s' 54, s' 55, s' 56, s' 57, s' 58, s' 59, s' 60, s' 61, s' 62, s' 63, s' 64, s' 65, s' 66, s' 67, s' 68, s' 69, s' 70, s' 71, s' 72, s' 73, s' 74]) (fun b => b.G) (fun b => b.j ≤ (ps.getD i 0).toNat ∧ Wlk z ps i b.j b.t ∧ Sep h b.G (Q (ofS z ps i b.j b.t) ++ [pcC G0.length (mpO (rarM z (rarF ps 0).length))])) (fun b => (ps.getD i 0).toNat - b.j) ⟨0, t, _⟩ (by rfl) rfl ⟨Nat.zero_le _, W1, S1⟩ ?_
      clear S1 W1
      rintro ⟨j, t, G⟩ s' ⟨hj, W1, S1⟩
      simp only [] at hj W1 S1 ⊢
      have hol := ofS_len hok i j t
      have hx : ((posN z t : Nat) : Int).toNat = posN z t := Int.toNat_natCast _
      have hmx : (if ps.getD i 0 < 0 then 0 else ps.getD i 0) = ((ps.getD i 0).toNat : Int) := by split <;> omega
      by_cases hjl : (j : Int) < ps.getD i 0
      · obtain ⟨hp, htz⟩ := W1.lt hok hil hjl
        have hpz := pos_lt hok.okz t
        have hset := ofS_next hp W1.len
        have hand : andI .i64 ((posN z t : Int) + (stpN z : Int)) (2 ^ n - 1) = (posN z (t + 1) : Int) := by
          rw [e, pos_succ, ← and_z h12 hz _ (by omega)]; push_cast; rfl
        focus
          with_reducible refine s_seq ?_
          with_reducible refine s_reg ?_
          refine sLt (fun hb => ?_) (fun hb => ?_)
          replace hb := dT' hb
          simp only [pu', p0', c1', c0', i1', z0', b8_nat]
          with_reducible refine s_end ?_
          with_reducible refine s_then ?_
          with_reducible refine s_seq ?_
          refine sCT ?_
          with_reducible refine s_skip ?_
          with_reducible refine s_then ?_
          with_reducible refine s_seq ?_
          with_reducible refine s_block ?_
          with_reducible refine s_seq ?_
          with_reducible refine s_seq ?_
          with_reducible refine s_reg ?_
          refine smove ?_
          simp only [pu', p0', c1', c0', i1', z0', b8_nat]
          refine smove ?_
          simp only [pu', p0', c1', c0', i1', z0', b8_nat]
          refine smove ?_
          simp only [pu', p0', c1', c0', i1', z0', b8_nat]
          rotate_left 1
          replace hb := dF' hb
          (exfalso; omega)
        refine sY (hx := rfl) ((hy _ _ i _ _ hol (by omega) (by omega) S1).mono ?_)
        rintro r X _ ⟨rfl, S3⟩
        simp only [Fr.put, List.set_cons_succ, List.set_cons_zero, Int.toNat_natCast, Nat.zero_add]
        rw [hx, hset] at S3
        refine snotT ?_
        simp only [pu', p0', c1', c0', i1', z0', b8_nat]
        with_reducible refine s_end ?_
        with_reducible refine s_then ?_
        refine sCF ?_
        with_reducible refine s_skip ?_
        with_reducible refine s_then ?_
        with_reducible refine s_seq ?_
        with_reducible refine s_reg ?_
        refine smove ?_
        simp only [pu', p0', c1', c0', i1', z0', b8_nat]
        refine sfad ?_
        simp only [pu', p0', c1', c0', i1', z0', b8_nat]
        refine sload1 ?_
        simp only [pu', p0', c1', c0', i1', z0', b8_nat]
        refine sK (hx := rfl) (c34) ?_
        simp only [pu', p0', c1', c0', i1', z0', b8_nat]
        refine sadd ?_
        simp only [pu', p0', c1', c0', i1', z0', b8_nat]
        refine smove ?_
        simp only [pu', p0', c1', c0', i1', z0', b8_nat]
        refine ssub ?_
        simp only [pu', p0', c1', c0', i1', z0', b8_nat]
        refine sand ?_
        simp only [pu', p0', c1', c0', i1', z0', b8_nat]
        refine sassign ?_
        simp only [pu', p0', c1', c0', i1', z0', b8_nat]
        with_reducible refine s_end ?_
        with_reducible refine s_then ?_
        with_reducible refine s_block ?_
        rw [hand]
        refine s_loop hm (fun (b : RoA) s' => [.yld iy, .ptr ib 0, s' 2, I (2 ^ n), .mp G0.length, s' 5, s' 6, s' 7, I (posN z b.k), I i, s' 10, s' 11, s' 12, s' 13, s' 14, s' 15, s' 16, s' 17, s' 18, s' 19, s' 20, s' 21, s' 22, s' 23, s' 24, s' 25, s' 26, s' 27, s' 28, s' 29, s' 30, s' 31, s' 32, s' 33, s' 34, s' 35, s' 36, s' 37, s, I ps.length, I i, s' 41, s' 42, s' 43, s' 44, s' 45, I (if ps.getD i 0 < 0 then 0 else ps.getD i 0), I j, s' 48, s' 49, s' 50, s' 51, s' 52, s' 53, s' 54, s' 55, s' 56, s' 57, s' 58, s' 59, s' 60, s' 61, s' 62, s' 63, s' 64, s' 65, s' 66, s' 67, s' 68, s' 69, s' 70, s' 71, s' 72, s' 73, s' 74]) (fun b => b.G) (fun b => b.k ≤ z ∧ (vis z (symF ps 0).length b.k).length = (symF (ps.take i) 0).length + (j + 1) ∧ Sep h b.G (Q (ofS z ps i (j + 1) b.k) ++ [pcC G0.length (mpO (rarM z (rarF ps 0).length))])) (fun b => z - b.k) ⟨t + 1, _⟩ (by rfl) rfl ⟨by simp only []; omega, by simp only []; rw [vis_go hp, List.length_append, W1.len]; rfl, S3⟩ ?_
        clear S1 S3 hset
        rintro ⟨u, G⟩ s' ⟨hu, hv, S1⟩
        simp only [] at hu hv S1 ⊢
        have hpu := pos_lt hok.okz u
        have hmu := hMg (posN z u) hpu
        have handu : andI .i64 ((posN z u : Int) + (stpN z : Int)) (2 ^ n - 1) = (posN z (u + 1) : Int) := by
          rw [e, pos_succ, ← and_z h12 hz _ (by omega)]; push_cast; rfl
        by_cases hfr : posN z u < (symF ps 0).length
        · rw [if_neg (by omega)] at hmu
          with_reducible refine s_seq ?_
          with_reducible refine s_seq ?_
          with_reducible refine s_reg ?_
          refine smove ?_
          simp only [pu', p0', c1', c0', i1', z0', b8_nat]
          refine smove ?_
          simp only [pu', p0', c1', c0', i1', z0', b8_nat]
          (refine s_lkp0 cmp_73 inferInstance hmu ?_; simp only [Fr.put, List.set_cons_succ, List.set_cons_zero, Int.toNat_natCast, Nat.zero_add])
          with_reducible refine s_end ?_
          with_reducible refine s_then ?_
          refine sCF ?_
          with_reducible refine s_exit ?_
          with_reducible refine s_thenE ?_
          with_reducible refine l_exit ?_
          with_reducible refine s_blkE ?_
          with_reducible refine s_blkN ?_
          with_reducible refine s_then ?_
          with_reducible refine s_reg ?_
          refine sadd ?_
          simp only [pu', p0', c1', c0', i1', z0', b8_nat]
          refine smove ?_
          simp only [pu', p0', c1', c0', i1', z0', b8_nat]
          with_reducible refine s_end ?_
          refine l_next ⟨j + 1, u, _⟩ ⟨by simp only []; omega, ⟨hu, hv, .inr hfr⟩, S1⟩ (by simp only []; omega) (by rfl) rfl
        · rw [if_pos (by omega)] at hmu
          have huz : u ≠ z := fun e2 => hfr (by rw [e2, pos_end]; omega)
          with_reducible refine s_seq ?_
          with_reducible refine s_seq ?_
          with_reducible refine s_reg ?_
          refine smove ?_
          simp only [pu', p0', c1', c0', i1', z0', b8_nat]
          refine smove ?_
          simp only [pu', p0', c1', c0', i1', z0', b8_nat]
          (refine s_lkp1 cmp_73 inferInstance hmu ?_; simp only [Fr.put, List.set_cons_succ, List.set_cons_zero, Int.toNat_natCast, Nat.zero_add])
          with_reducible refine s_end ?_
          with_reducible refine s_then ?_
          refine sCT ?_
          with_reducible refine s_skip ?_
          with_reducible refine s_then ?_
          with_reducible refine s_block ?_
          with_reducible refine s_reg ?_
          refine smove ?_
          simp only [pu', p0', c1', c0', i1', z0', b8_nat]
          refine sfad ?_
          simp only [pu', p0', c1', c0', i1', z0', b8_nat]
          refine sload1 ?_
          simp only [pu', p0', c1', c0', i1', z0', b8_nat]
          refine sK (hx := rfl) (c34) ?_
          simp only [pu', p0', c1', c0', i1', z0', b8_nat]
          refine sadd ?_
          simp only [pu', p0', c1', c0', i1', z0', b8_nat]
          refine smove ?_
          simp only [pu', p0', c1', c0', i1', z0', b8_nat]
          refine ssub ?_
          simp only [pu', p0', c1', c0', i1', z0', b8_nat]
          refine sand ?_
          simp only [pu', p0', c1', c0', i1', z0', b8_nat]
          refine sassign ?_
          simp only [pu', p0', c1', c0', i1', z0', b8_nat]
          with_reducible refine s_end ?_
          with_reducible refine s_blkN ?_
          rw [handu]
          refine l_next ⟨u + 1, _⟩ ⟨by simp only []; omega, by simp only []; rw [vis_no hfr]; exact hv, by simp only []; rw [← ofS_skip hfr]; exact S1⟩ (by simp only []; omega) (by rfl) rfl
      · have W2 := W1.sym hil (by omega)
        rw [ofS_sym hil (by omega)] at S1
        with_reducible refine s_seq ?_
        with_reducible refine s_reg ?_
        refine sLt (fun hb => ?_) (fun hb => ?_)
        replace hb := dT' hb
        (exfalso; omega)
        replace hb := dF' hb
        simp only [pu', p0', c1', c0', i1', z0', b8_nat]
        with_reducible refine s_end ?_
        with_reducible refine s_then ?_
        with_reducible refine s_seq ?_
        refine sCF ?_
        with_reducible refine s_exit ?_
        with_reducible refine s_thenE ?_
        with_reducible refine l_exit ?_
        with_reducible refine s_blkE ?_
        with_reducible refine s_blkN ?_
        with_reducible refine s_then ?_
        with_reducible refine s_reg ?_
        refine sadd ?_
        simp only [pu', p0', c1', c0', i1', z0', b8_nat]
        refine smove ?_
        simp only [pu', p0', c1', c0', i1', z0', b8_nat]
        with_reducible refine s_end ?_
        refine l_next ⟨i + 1, t, _⟩ ⟨by simp only []; omega, W2, S1⟩ (by simp only []; omega) (by rfl) rfl
    · have hdn := W1.done hok (by omega)
      rw [ofS_end (by omega) hdn] at S1
      with_reducible refine s_seq ?_
      with_reducible refine s_reg ?_
      refine sLt (fun hb => ?_) (fun hb => ?_)
      replace hb := dT' hb
      (exfalso; omega)
      replace hb := dF' hb
      simp only [pu', p0', c1', c0', i1', z0', b8_nat]
      with_reducible refine s_end ?_
      with_reducible refine s_then ?_
      with_reducible refine s_seq ?_
      refine sCF ?_
      with_reducible refine s_exit ?_
      with_reducible refine s_thenE ?_
      with_reducible refine l_exit ?_
      with_reducible refine s_blkE ?_
      all_goals try with_reducible refine w_n ?_
      all_goals refine w_0 rfl  ?_
      exact ⟨_, S1⟩
end Go.Proofs.Ytgbddbiimffplaa
