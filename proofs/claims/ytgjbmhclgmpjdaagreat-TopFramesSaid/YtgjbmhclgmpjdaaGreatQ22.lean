/-
  A part of the proof of a statement of a chapter's seat; conditions: stated at each theorem.
-/
import Derived.Test.YtgjbmhclgmpjdaaGreatQ21
set_option linter.unusedVariables false
set_option linter.unusedSectionVars false
set_option linter.unusedSimpArgs false
set_option linter.unusedVariables false
set_option maxRecDepth 100000
set_option maxHeartbeats 8000000
namespace Go.Proofs.YtgjbmhclgmpjdaaGreat
open Go.Az Go
/-! ### Frames are written -/
abbrev EI (h : Hp) (s : AV) (l : List Int) : Prop := EL Int (encI .i64) 1 0 h s l
def encb (b : Bk) (e : Int) : List UInt8 := enc3 (8 * b.s + 2 * b.k + e) ++ (if b.k = 1 then b.q.take 1 else b.q)
def okB (b : Bk) : Prop := (b.q.length : Int) = b.s ∧ b.q.length ≤ 200 ∧ (b.k = 0 ∨ (b.k = 1 ∧ 1 ≤ b.q.length ∧ ∃ c, b.q = List.replicate b.q.length c))
def encs (bs : List Bk) : List UInt8 := bs.flatMap fun b => encb b 0
abbrev hd6 : List UInt8 := [40, 181, 47, 253, 0, 0]
def lastB (w : List UInt8) : Bk := ⟨w.length, 0, w⟩
def fra (bs : List Bk) (w : List UInt8) : List UInt8 := hd6 ++ encs bs ++ encb (lastB w) 1
theorem encs_app (a b : List Bk) : encs (a ++ b) = encs a ++ encs b := List.flatMap_append
theorem flat_app (a b : List Bk) : flat (a ++ b) = flat a ++ flat b := List.flatMap_append
theorem encs_len : ∀ bs : List Bk, (encs bs).length ≤ 3 * bs.length + (flat bs).length
  | [] => by simp [encs]
  | b :: r => by
    have h := encs_len r
    have e : (encs (b :: r)).length = (encb b 0).length + (encs r).length := by
      show (encb b 0 ++ encs r).length = _
      rw [List.length_append]
    have e2 : (encb b 0).length ≤ 3 + b.q.length := by
      unfold encb
      rw [List.length_append, enc3_len]
      split
      · rw [List.length_take]; omega
      · omega
    rw [flat_cons, List.length_append, List.length_cons, e]
    omega
def rawB (s : List UInt8) (a n : Nat) : Bk := ⟨((s.take n).drop a).length, 0, (s.take n).drop a⟩
def rleB (s : List UInt8) (a n : Nat) : Bk := ⟨((s.take n).drop a).length, 1, (s.take n).drop a⟩
theorem cut_len {s : List UInt8} {a n : Nat} (hn : n ≤ s.length) : ((s.take n).drop a).length = n - a := by
  rw [List.length_drop, List.length_take]; omega
theorem cut_app {s : List UInt8} {a n : Nat} (h : a ≤ n) : s.take a ++ (s.take n).drop a = s.take n := by
  have : s.take a = (s.take n).take a := by rw [List.take_take, Nat.min_eq_left h]
  rw [this, List.take_append_drop]
theorem cut_rep {s : List UInt8} {a n : Nat} (ha : a < n) (hn : n ≤ s.length) (hr : ∀ j, a ≤ j → j < n → s.getD j 0 = s.getD a 0) : (s.take n).drop a = List.replicate ((s.take n).drop a).length (s.getD a 0) := by
  refine List.eq_replicate_iff.2 ⟨rfl, fun c hc => ?_⟩
  obtain ⟨j, hj, rfl⟩ := List.getElem_of_mem hc
  rw [cut_len hn] at hj
  rw [List.getElem_drop, List.getElem_take]
  have := hr (a + j) (by omega) (by omega)
  rw [List.getD_eq_getElem?_getD, List.getElem?_eq_getElem (by omega)] at this
  exact this
theorem cut_le (s : List UInt8) (a n : Nat) : ((s.take n).drop a).length ≤ s.length := by
  rw [List.length_drop, List.length_take]; omega
theorem drop_le (s : List UInt8) (a : Nat) : (s.drop a).length ≤ s.length := by
  rw [List.length_drop]; omega
section
variable (h : Hp) (q : List UInt8) (hq : q.length ≤ 200)
include hq
theorem blkW : ACalls Tryz.prog 14 [St q, B false, B false] h (fun r h' => ∃ t, r = St t ∧ t = enc3 (8 * q.length + 2 * 0 + 0) ++ q ∧ t.length ≤ 203 ∧ h = h') :=
  (blockW_any q hq).any rfl h fun r hr _ => ⟨_, hr, rfl, by rw [List.length_append, enc3_len]; omega, rfl⟩
theorem blkL : ACalls Tryz.prog 14 [St q, B false, B true] h (fun r h' => ∃ t, r = St t ∧ t = enc3 (8 * q.length + 2 * 0 + 1) ++ q ∧ t.length ≤ 203 ∧ h = h') :=
  (blockL_any q hq).any rfl h fun r hr _ => ⟨_, hr, rfl, by rw [List.length_append, enc3_len]; omega, rfl⟩
theorem blkR (h1 : 1 ≤ q.length) : ACalls Tryz.prog 14 [St q, B true, B false] h (fun r h' => ∃ t, r = St t ∧ t = enc3 (8 * q.length + 2 * 1 + 0) ++ q.take 1 ∧ t.length ≤ 203 ∧ h = h') :=
  (blockR_any q hq h1).any rfl h fun r hr _ => ⟨_, hr, rfl, by rw [List.length_append, enc3_len, List.length_take]; omega, rfl⟩
end
structure LS where
  i : Nat
  a : Int
  bs : List Bk
theorem framed_any (h : Hp) (z : AV) (nums : List Int) (hN : Elts (encI .i64) 1 h z nums) (s : List UInt8) (hs : s.length ≤ 200) :
    ACalls Tryz.prog 8 [St s, z] h (fun r h' => (∃ bs w, r = St (fra bs w) ∧ (∀ b ∈ bs, okB b) ∧ flat bs ++ w = s ∧ bs.length ≤ 12) ∧ h = h') := by
  have ei : EI h z nums := mkEL iok 0 hN
  refine acalls_of_wk hm Tryz.func8 rfl ?_
  simp only [Tryz.ntmps8, List.length_cons, List.length_nil, Nat.reduceAdd, Nat.reduceSub, List.reduceReplicate, List.cons_append, List.nil_append]
  show wk _ _ none _ _ ⟨_, []⟩ _
  with_reducible refine s_seq ?_
  with_reducible refine s_reg ?_
  refine sassign ?_
  simp only [pu', p0', c1', c0', i1', z0', b8_nat]
  with_reducible refine s_end ?_
  with_reducible refine s_then ?_
  with_reducible refine s_seq ?_
  with_reducible refine s_reg ?_
  refine sassign ?_
  simp only [pu', p0', c1', c0', i1', z0', b8_nat]
  with_reducible refine s_end ?_
  with_reducible refine s_then ?_
  with_reducible refine s_seq ?_
  with_reducible refine s_reg ?_
  refine sassign ?_
  simp only [pu', p0', c1', c0', i1', z0', b8_nat]
  with_reducible refine s_end ?_
  with_reducible refine s_then ?_
  with_reducible refine s_seq ?_
  with_reducible refine s_seq ?_
  with_reducible refine s_reg ?_
  refine sassign ?_
  simp only [pu', p0', c1', c0', i1', z0', b8_nat]
  with_reducible refine s_end ?_
  with_reducible refine s_then ?_
  with_reducible refine s_block ?_
  refine s_loop hm (fun (b : LS) s' => [St s, z, s' 2, s' 3, s' 4, St (hd6 ++ encs b.bs), I b.a, I b.i, s' 8, s' 9, s' 10, s' 11, s' 12, s' 13, s' 14, s' 15, s' 16, s' 17, s' 18, s' 19, s' 20, s' 21, s' 22, s' 23, s' 24, s' 25, s' 26, s' 27, s' 28, s' 29, s' 30, s' 31, s' 32, s' 33, s' 34, s' 35, s' 36, s' 37, s' 38, s' 39, s' 40, s' 41, s' 42, s' 43, s' 44, s' 45, s' 46, s' 47, s' 48, s' 49, s' 50, s' 51, s' 52, s' 53, s' 54, s' 55, s' 56, s' 57, s' 58, s' 59, s' 60, s' 61, s' 62, s' 63, s' 64, s' 65, s' 66, s' 67, s' 68, s' 69, s' 70, s' 71, s' 72, s' 73, s' 74, s' 75, s' 76, s' 77, s' 78, s' 79]) (fun b => h) (fun b => b.i ≤ 12 ∧ b.bs.length = b.i ∧ 0 ≤ b.a ∧ b.a ≤ s.length ∧ flat b.bs = s.take b.a.toNat ∧ ∀ c ∈ b.bs, okB c) (fun b => 12 - b.i) ⟨0, 0, []⟩ (by rfl) rfl (by simp [flat]) ?_
  rintro ⟨i, a, bs⟩ s' ⟨g0, g1, ga, g2, g3, g4⟩
  simp only [] at g0 g1 ga g2 g3 g4 ⊢
  have gl := encs_len bs
  have gf : (flat bs).length = a.toNat := by rw [g3, List.length_take]; omega
  have gh : (hd6 ++ encs bs).length ≤ 250 := by rw [List.length_append, List.length_cons, List.length_cons, List.length_cons, List.length_cons, List.length_cons, List.length_cons, List.length_nil]; omega
  focus
    with_reducible refine s_seq ?_
    with_reducible refine s_seq ?_
    with_reducible refine s_reg ?_
    refine smove ?_
    simp only [pu', p0', c1', c0', i1', z0', b8_nat]
    refine smove ?_
    simp only [pu', p0', c1', c0', i1', z0', b8_nat]
    refine slenE ?_
    simp only [pu', p0', c1', c0', i1', z0', b8_nat]
    refine sLt (fun hb => ?_) (fun hb => ?_)
    replace hb := dT' hb
    simp only [pu', p0', c1', c0', i1', z0', b8_nat]
    refine smove ?_
    simp only [pu', p0', c1', c0', i1', z0', b8_nat]
    refine smove ?_
    simp only [pu', p0', c1', c0', i1', z0', b8_nat]
    refine sLt (fun hb => ?_) (fun hb => ?_)
    replace hb := dT' hb
    simp only [pu', p0', c1', c0', i1', z0', b8_nat]
    refine spickT ?_
    simp only [pu', p0', c1', c0', i1', z0', b8_nat]
    with_reducible refine s_end ?_
    with_reducible refine s_then ?_
    refine sCT ?_
    with_reducible refine s_skip ?_
    with_reducible refine s_then ?_
    with_reducible refine s_seq ?_
    with_reducible refine s_block ?_
    with_reducible refine s_seq ?_
    with_reducible refine s_reg ?_
    refine smove ?_
    simp only [pu', p0', c1', c0', i1', z0', b8_nat]
    refine smove ?_
    simp only [pu', p0', c1', c0', i1', z0', b8_nat]
    refine sidxE ?_
    simp only [pu', p0', c1', c0', i1', z0', b8_nat]
    refine sloadE1 ?_
    simp only [pu', p0', c1', c0', i1', z0', b8_nat]
    refine sK (hx := rfl) (mod_any _ _ (by omega) (by omega)) ?_
    simp only [pu', p0', c1', c0', i1', z0', b8_nat]
    refine sassign ?_
    simp only [pu', p0', c1', c0', i1', z0', b8_nat]
    with_reducible refine s_end ?_
    with_reducible refine s_then ?_
    with_reducible refine s_seq ?_
    with_reducible refine s_reg ?_
    refine smove ?_
    simp only [pu', p0', c1', c0', i1', z0', b8_nat]
    refine slenS ?_
    simp only [pu', p0', c1', c0', i1', z0', b8_nat]
    refine smove ?_
    simp only [pu', p0', c1', c0', i1', z0', b8_nat]
    refine smove ?_
    simp only [pu', p0', c1', c0', i1', z0', b8_nat]
    refine srem ?_
    simp only [pu', p0', c1', c0', i1', z0', b8_nat]
    refine sadd ?_
    simp only [pu', p0', c1', c0', i1', z0', b8_nat]
    refine smin ?_
    simp only [pu', p0', c1', c0', i1', z0', b8_nat]
    refine sassign ?_
    simp only [pu', p0', c1', c0', i1', z0', b8_nat]
    with_reducible refine s_end ?_
    with_reducible refine s_then ?_
    with_reducible refine s_seq ?_
    with_reducible refine s_seq ?_
    rotate_left 1
    replace hb := dF' hb
    simp only [pu', p0', c1', c0', i1', z0', b8_nat]
    refine spickT ?_
    simp only [pu', p0', c1', c0', i1', z0', b8_nat]
    with_reducible refine s_end ?_
    with_reducible refine s_then ?_
    refine sCF ?_
    with_reducible refine s_exit ?_
    with_reducible refine s_thenE ?_
    with_reducible refine l_exit ?_
    with_reducible refine s_blkE ?_
    with_reducible refine s_then ?_
    with_reducible refine s_seq ?_
    with_reducible refine s_reg ?_
    refine smove ?_
    simp only [pu', p0', c1', c0', i1', z0', b8_nat]
    refine smove ?_
    simp only [pu', p0', c1', c0', i1', z0', b8_nat]
    refine smove ?_
    simp only [pu', p0', c1', c0', i1', z0', b8_nat]
    refine sslcLo ?_
    simp only [pu', p0', c1', c0', i1', z0', b8_nat]
    refine sC (hx := rfl) ((blkL _ _ (Nat.le_trans (drop_le _ _) hs)).mono ?_)
    rintro _ m14 _ ⟨t, rfl, ht, htl, rfl⟩
    simp only [pu', p0', c1', c0', i1', n0', n3', n1', n2', a2', a1', a0', n4', Nat.reduceAdd, z0', n5', sa0, sa1, sa2, sa3, sa4, sa5, sa6, sa7, sa8, sa9, sa10, sa11]
    refine saddS ?_
    simp only [pu', p0', c1', c0', i1', z0', b8_nat]
    refine sassign ?_
    simp only [pu', p0', c1', c0', i1', z0', b8_nat]
    with_reducible refine s_end ?_
    with_reducible refine s_then ?_
    with_reducible refine s_ret ?_
    rotate_left 1
    replace hb := dF' hb
    simp only [pu', p0', c1', c0', i1', z0', b8_nat]
    refine smove ?_
    simp only [pu', p0', c1', c0', i1', z0', b8_nat]
    (with_reducible refine s_gN ?_ ?_; exact wG rfl rfl rfl rfl rfl)
    simp only [pu', p0', c1', c0', i1', z0', b8_nat]
    (with_reducible refine s_gN ?_ ?_; exact wG rfl rfl rfl rfl rfl)
    simp only [pu', p0', c1', c0', i1', z0', b8_nat]
    refine spickF ?_
    simp only [pu', p0', c1', c0', i1', z0', b8_nat]
    with_reducible refine s_end ?_
    with_reducible refine s_then ?_
    refine sCF ?_
    with_reducible refine s_exit ?_
    with_reducible refine s_thenE ?_
    with_reducible refine l_exit ?_
    with_reducible refine s_blkE ?_
    with_reducible refine s_then ?_
    with_reducible refine s_seq ?_
    with_reducible refine s_reg ?_
    refine smove ?_
    simp only [pu', p0', c1', c0', i1', z0', b8_nat]
    refine smove ?_
    simp only [pu', p0', c1', c0', i1', z0', b8_nat]
    refine smove ?_
    simp only [pu', p0', c1', c0', i1', z0', b8_nat]
    refine sslcLo ?_
    simp only [pu', p0', c1', c0', i1', z0', b8_nat]
    refine sC (hx := rfl) ((blkL _ _ (Nat.le_trans (drop_le _ _) hs)).mono ?_)
    rintro _ m14 _ ⟨t, rfl, ht, htl, rfl⟩
    simp only [pu', p0', c1', c0', i1', n0', n3', n1', n2', a2', a1', a0', n4', Nat.reduceAdd, z0', n5', sa0, sa1, sa2, sa3, sa4, sa5, sa6, sa7, sa8, sa9, sa10, sa11]
    refine saddS ?_
    simp only [pu', p0', c1', c0', i1', z0', b8_nat]
    refine sassign ?_
    simp only [pu', p0', c1', c0', i1', z0', b8_nat]
    with_reducible refine s_end ?_
    with_reducible refine s_then ?_
    with_reducible refine s_ret ?_
    rotate_left 1
  · have hk0 := Int.emod_nonneg (nums.getD i 0) (show (1048576 : Int) ≠ 0 by omega)
    have hk1 := Int.emod_lt_of_pos (nums.getD i 0) (show (0 : Int) < 1048576 by omega)
    generalize nums.getD i 0 % 1048576 = k at *
    obtain ⟨n, hn⟩ : ∃ n, n = (if a + k % 60 < (s.length : Int) then a + k % 60 else (s.length : Int)) := ⟨_, rfl⟩
    rw [← hn]
    have n0 : a ≤ n ∧ n ≤ s.length := by rw [hn]; split <;> omega
    clear hn
    have nx : ∀ (m : Int) (b : Bk), a ≤ m → m ≤ s.length → b.q = (s.take m.toNat).drop a.toNat → okB b → (bs ++ [b]).length = i + 1 ∧ 0 ≤ m ∧ m ≤ s.length ∧ flat (bs ++ [b]) = s.take m.toNat ∧ ∀ c ∈ bs ++ [b], okB c := by
      intro m b h1 h2 h3 h4
      refine ⟨by simp [g1], by omega, h2, ?_, ?_⟩
      · rw [flat_app, g3, show flat [b] = b.q by simp [flat], h3]
        exact cut_app (by omega)
      · intro c hc
        rcases List.mem_append.1 hc with hc | hc
        · exact g4 c hc
        · simp only [List.mem_singleton] at hc; subst hc; exact h4
    have ew : ∀ m : Int, encs (bs ++ [rawB s a.toNat m.toNat]) = encs bs ++ (enc3 (8 * ((s.take m.toNat).drop a.toNat).length + 2 * 0 + 0) ++ (s.take m.toNat).drop a.toNat) := by
      intro m
      rw [encs_app]; simp [encs, encb, rawB]
    have er : ∀ m : Int, encs (bs ++ [rleB s a.toNat m.toNat]) = encs bs ++ (enc3 (8 * ((s.take m.toNat).drop a.toNat).length + 2 * 1 + 0) ++ ((s.take m.toNat).drop a.toNat).take 1) := by
      intro m
      rw [encs_app]; simp [encs, encb, rleB]
    have cl := cut_le s a.toNat n.toNat
    focus
      with_reducible refine s_reg ?_
      refine smove ?_
      simp only [pu', p0', c1', c0', i1', z0', b8_nat]
      refine squo ?_
      simp only [pu', p0', c1', c0', i1', z0', b8_nat]
      refine srem ?_
      simp only [pu', p0', c1', c0', i1', z0', b8_nat]
      refine sEq (fun hb => ?_) (fun hb => ?_)
      replace hb := dT' hb
      simp only [pu', p0', c1', c0', i1', z0', b8_nat]
      refine smove ?_
      simp only [pu', p0', c1', c0', i1', z0', b8_nat]
      refine smove ?_
      simp only [pu', p0', c1', c0', i1', z0', b8_nat]
      refine smove ?_
      simp only [pu', p0', c1', c0', i1', z0', b8_nat]
      refine slenS ?_
      simp only [pu', p0', c1', c0', i1', z0', b8_nat]
      refine sLt (fun hb => ?_) (fun hb => ?_)
      replace hb := dT' hb
      simp only [pu', p0', c1', c0', i1', z0', b8_nat]
      refine spickT ?_
      simp only [pu', p0', c1', c0', i1', z0', b8_nat]
      with_reducible refine s_end ?_
      with_reducible refine s_then ?_
      refine sCT ?_
      with_reducible refine s_seq ?_
      with_reducible refine s_reg ?_
      refine smove ?_
      simp only [pu', p0', c1', c0', i1', z0', b8_nat]
      refine sadd ?_
      simp only [pu', p0', c1', c0', i1', z0', b8_nat]
      refine sassign ?_
      simp only [pu', p0', c1', c0', i1', z0', b8_nat]
      with_reducible refine s_end ?_
      with_reducible refine s_then ?_
      with_reducible refine s_seq ?_
      with_reducible refine s_block ?_
      rotate_left 1
      replace hb := dF' hb
      simp only [pu', p0', c1', c0', i1', z0', b8_nat]
      refine spickT ?_
      simp only [pu', p0', c1', c0', i1', z0', b8_nat]
      with_reducible refine s_end ?_
      with_reducible refine s_then ?_
      refine sCF ?_
      with_reducible refine s_reg ?_
      refine smove ?_
      simp only [pu', p0', c1', c0', i1', z0', b8_nat]
      refine smove ?_
      simp only [pu', p0', c1', c0', i1', z0', b8_nat]
      refine smove ?_
      simp only [pu', p0', c1', c0', i1', z0', b8_nat]
      refine smove ?_
      simp only [pu', p0', c1', c0', i1', z0', b8_nat]
      refine sslcS ?_
      simp only [pu', p0', c1', c0', i1', z0', b8_nat]
      refine sC (hx := rfl) ((blkW _ _ (Nat.le_trans (cut_le _ _ _) hs)).mono ?_)
      rintro _ m14 _ ⟨t, rfl, ht, htl, rfl⟩
      simp only [pu', p0', c1', c0', i1', n0', n3', n1', n2', a2', a1', a0', n4', Nat.reduceAdd, z0', n5', sa0, sa1, sa2, sa3, sa4, sa5, sa6, sa7, sa8, sa9, sa10, sa11]
      refine saddS ?_
      simp only [pu', p0', c1', c0', i1', z0', b8_nat]
      refine sassign ?_
      simp only [pu', p0', c1', c0', i1', z0', b8_nat]
      with_reducible refine s_end ?_
      with_reducible refine s_then ?_
      with_reducible refine s_reg ?_
      refine smove ?_
      simp only [pu', p0', c1', c0', i1', z0', b8_nat]
      refine sassign ?_
      simp only [pu', p0', c1', c0', i1', z0', b8_nat]
      with_reducible refine s_end ?_
      with_reducible refine s_blkN ?_
      with_reducible refine s_then ?_
      with_reducible refine s_reg ?_
      refine smove ?_
      simp only [pu', p0', c1', c0', i1', z0', b8_nat]
      refine sadd ?_
      simp only [pu', p0', c1', c0', i1', z0', b8_nat]
      refine sassign ?_
      simp only [pu', p0', c1', c0', i1', z0', b8_nat]
      with_reducible refine s_end ?_
      rotate_left 1
      replace hb := dF' hb
      simp only [pu', p0', c1', c0', i1', z0', b8_nat]
      refine smove ?_
      simp only [pu', p0', c1', c0', i1', z0', b8_nat]
      (with_reducible refine s_gN ?_ ?_; exact wG rfl rfl rfl rfl rfl)
      simp only [pu', p0', c1', c0', i1', z0', b8_nat]
      (with_reducible refine s_gN ?_ ?_; exact wG rfl rfl rfl rfl rfl)
      simp only [pu', p0', c1', c0', i1', z0', b8_nat]
      (with_reducible refine s_gN ?_ ?_; exact wG rfl rfl rfl rfl rfl)
      simp only [pu', p0', c1', c0', i1', z0', b8_nat]
      (with_reducible refine s_gN ?_ ?_; exact wG rfl rfl rfl rfl rfl)
      simp only [pu', p0', c1', c0', i1', z0', b8_nat]
      refine spickF ?_
      simp only [pu', p0', c1', c0', i1', z0', b8_nat]
      with_reducible refine s_end ?_
      with_reducible refine s_then ?_
      refine sCF ?_
      with_reducible refine s_reg ?_
      refine smove ?_
      simp only [pu', p0', c1', c0', i1', z0', b8_nat]
      refine smove ?_
      simp only [pu', p0', c1', c0', i1', z0', b8_nat]
      refine smove ?_
      simp only [pu', p0', c1', c0', i1', z0', b8_nat]
      refine smove ?_
      simp only [pu', p0', c1', c0', i1', z0', b8_nat]
      refine sslcS ?_
      simp only [pu', p0', c1', c0', i1', z0', b8_nat]
      refine sC (hx := rfl) ((blkW _ _ (Nat.le_trans (cut_le _ _ _) hs)).mono ?_)
      rintro _ m14 _ ⟨t, rfl, ht, htl, rfl⟩
      simp only [pu', p0', c1', c0', i1', n0', n3', n1', n2', a2', a1', a0', n4', Nat.reduceAdd, z0', n5', sa0, sa1, sa2, sa3, sa4, sa5, sa6, sa7, sa8, sa9, sa10, sa11]
      refine saddS ?_
      simp only [pu', p0', c1', c0', i1', z0', b8_nat]
      refine sassign ?_
      simp only [pu', p0', c1', c0', i1', z0', b8_nat]
      with_reducible refine s_end ?_
      with_reducible refine s_then ?_
      with_reducible refine s_reg ?_
      refine smove ?_
      simp only [pu', p0', c1', c0', i1', z0', b8_nat]
      refine sassign ?_
      simp only [pu', p0', c1', c0', i1', z0', b8_nat]
      with_reducible refine s_end ?_
      with_reducible refine s_blkN ?_
      with_reducible refine s_then ?_
      with_reducible refine s_reg ?_
      refine smove ?_
      simp only [pu', p0', c1', c0', i1', z0', b8_nat]
      refine sadd ?_
      simp only [pu', p0', c1', c0', i1', z0', b8_nat]
      refine sassign ?_
      simp only [pu', p0', c1', c0', i1', z0', b8_nat]
      with_reducible refine s_end ?_
      rotate_left 1
    · refine s_loop hm (fun (n : Int) s' => [St s, z, s' 2, s' 3, s' 4, St (hd6 ++ encs bs), I a, I i, s' 8, I n, s' 10, s' 11, s' 12, s' 13, s' 14, s' 15, s' 16, s' 17, s' 18, s' 19, s' 20, s' 21, s' 22, s' 23, s' 24, s' 25, s' 26, s' 27, s' 28, s' 29, s' 30, s' 31, s' 32, s' 33, s' 34, s' 35, s' 36, s' 37, s' 38, s' 39, s' 40, s' 41, s' 42, s' 43, s' 44, s' 45, s' 46, s' 47, s' 48, s' 49, s' 50, s' 51, s' 52, s' 53, s' 54, s' 55, s' 56, s' 57, s' 58, s' 59, s' 60, s' 61, s' 62, s' 63, s' 64, s' 65, s' 66, s' 67, s' 68, s' 69, s' 70, s' 71, s' 72, s' 73, s' 74, s' 75, s' 76, s' 77, s' 78, s' 79]) (fun _ => h) (fun n => a < n ∧ n ≤ s.length ∧ ∀ j : Nat, a.toNat ≤ j → (j : Int) < n → s.getD j 0 = s.getD a.toNat 0) (fun n => (s.length - n).toNat) (a + 1) (by rfl) rfl ⟨by omega, by omega, fun j h1 h2 => by rw [show j = a.toNat by omega]⟩ ?_
      rintro n s'' ⟨n0, n1, n2⟩
      simp only [] at n0 n1 n2 ⊢
      focus
        with_reducible refine s_seq ?_
        with_reducible refine s_seq ?_
        (refine s_regQ (id := 10) [(0, true), (1, true), (2, true), (3, true), (4, true), (5, true), (6, true), (7, true), (8, true), (9, true), (10, true), (11, true), (12, true)] (by kernel_rfl) (by conv => lhs; simp only [pickO, List.getElem?_cons_succ, List.getElem?_cons_zero]) ?_)
        refine qmove ?_
        simp only [pu', p0', c1', c0', i1', z0', b8_nat]
        refine qmove ?_
        simp only [pu', p0', c1', c0', i1', z0', b8_nat]
        refine qlenS ?_
        simp only [pu', p0', c1', c0', i1', z0', b8_nat]
        refine qLt (fun hb => ?_) (fun hb => ?_)
        replace hb := dT' hb
        simp only [pu', p0', c1', c0', i1', z0', b8_nat]
        refine qmove ?_
        simp only [pu', p0', c1', c0', i1', z0', b8_nat]
        refine qmove ?_
        simp only [pu', p0', c1', c0', i1', z0', b8_nat]
        refine qmove ?_
        simp only [pu', p0', c1', c0', i1', z0', b8_nat]
        refine qidxStr ?_
        simp only [pu', p0', c1', c0', i1', z0', b8_nat]
        refine qmove ?_
        simp only [pu', p0', c1', c0', i1', z0', b8_nat]
        refine qmove ?_
        simp only [pu', p0', c1', c0', i1', z0', b8_nat]
        refine qidxStr ?_
        simp only [pu', p0', c1', c0', i1', z0', b8_nat]
        refine qEq (fun hb => ?_) (fun hb => ?_)
        replace hb := dT' hb
        simp only [pu', p0', c1', c0', i1', z0', b8_nat]
        refine qpickT ?_
        simp only [pu', p0', c1', c0', i1', z0', b8_nat]
        with_reducible refine q_end ?_
        with_reducible refine s_then ?_
        refine sCT ?_
        with_reducible refine s_skip ?_
        with_reducible refine s_then ?_
        with_reducible refine s_block ?_
        with_reducible refine s_reg ?_
        refine smove ?_
        simp only [pu', p0', c1', c0', i1', z0', b8_nat]
        refine sadd ?_
        simp only [pu', p0', c1', c0', i1', z0', b8_nat]
        refine sassign ?_
        simp only [pu', p0', c1', c0', i1', z0', b8_nat]
        with_reducible refine s_end ?_
        with_reducible refine s_blkN ?_
        rotate_left 1
        replace hb := dF' hb
        simp only [pu', p0', c1', c0', i1', z0', b8_nat]
        refine qpickT ?_
        simp only [pu', p0', c1', c0', i1', z0', b8_nat]
        with_reducible refine q_end ?_
        with_reducible refine s_then ?_
        refine sCF ?_
        with_reducible refine s_exit ?_
        with_reducible refine s_thenE ?_
        with_reducible refine l_exit ?_
        with_reducible refine s_blkE ?_
        with_reducible refine s_then ?_
        with_reducible refine s_reg ?_
        refine smove ?_
        simp only [pu', p0', c1', c0', i1', z0', b8_nat]
        refine smove ?_
        simp only [pu', p0', c1', c0', i1', z0', b8_nat]
        refine smove ?_
        simp only [pu', p0', c1', c0', i1', z0', b8_nat]
        refine smove ?_
        simp only [pu', p0', c1', c0', i1', z0', b8_nat]
        refine sslcS ?_
        simp only [pu', p0', c1', c0', i1', z0', b8_nat]
        refine sC (hx := rfl) ((blkR _ _ (Nat.le_trans (cut_le _ _ _) hs) (by rw [cut_len (by omega)]; omega)).mono ?_)
        rintro _ m14 _ ⟨t, rfl, ht, htl, rfl⟩
        simp only [pu', p0', c1', c0', i1', n0', n3', n1', n2', a2', a1', a0', n4', Nat.reduceAdd, z0', n5', sa0, sa1, sa2, sa3, sa4, sa5, sa6, sa7, sa8, sa9, sa10, sa11]
        refine saddS ?_
        simp only [pu', p0', c1', c0', i1', z0', b8_nat]
        refine sassign ?_
        simp only [pu', p0', c1', c0', i1', z0', b8_nat]
        with_reducible refine s_end ?_
        with_reducible refine s_then ?_
        with_reducible refine s_reg ?_
        refine smove ?_
        simp only [pu', p0', c1', c0', i1', z0', b8_nat]
        refine sassign ?_
        simp only [pu', p0', c1', c0', i1', z0', b8_nat]
        with_reducible refine s_end ?_
        with_reducible refine s_blkN ?_
        with_reducible refine s_then ?_
        with_reducible refine s_reg ?_
        refine smove ?_
        simp only [pu', p0', c1', c0', i1', z0', b8_nat]
        refine sadd ?_
        simp only [pu', p0', c1', c0', i1', z0', b8_nat]
        refine sassign ?_
        simp only [pu', p0', c1', c0', i1', z0', b8_nat]
        with_reducible refine s_end ?_
        rotate_left 1
        replace hb := dF' hb
        simp only [pu', p0', c1', c0', i1', z0', b8_nat]
        refine qmove ?_
        simp only [pu', p0', c1', c0', i1', z0', b8_nat]
        (with_reducible refine q_gN ?_ ?_; exact wG rfl rfl rfl rfl rfl)
        simp only [pu', p0', c1', c0', i1', z0', b8_nat]
        (with_reducible refine q_gN ?_ ?_; exact wG rfl rfl rfl rfl rfl)
        simp only [pu', p0', c1', c0', i1', z0', b8_nat]
        (with_reducible refine q_gN ?_ ?_; exact wG rfl rfl rfl rfl rfl)
        simp only [pu', p0', c1', c0', i1', z0', b8_nat]
        (with_reducible refine q_gN ?_ ?_; exact wG rfl rfl rfl rfl rfl)
        simp only [pu', p0', c1', c0', i1', z0', b8_nat]
        (with_reducible refine q_gN ?_ ?_; exact wG rfl rfl rfl rfl rfl)
        simp only [pu', p0', c1', c0', i1', z0', b8_nat]
        (with_reducible refine q_gN ?_ ?_; exact wG rfl rfl rfl rfl rfl)
        simp only [pu', p0', c1', c0', i1', z0', b8_nat]
        (with_reducible refine q_gN ?_ ?_; exact wG rfl rfl rfl rfl rfl)
        simp only [pu', p0', c1', c0', i1', z0', b8_nat]
        refine qpickF ?_
        simp only [pu', p0', c1', c0', i1', z0', b8_nat]
        with_reducible refine q_end ?_
        with_reducible refine s_then ?_
        refine sCF ?_
        with_reducible refine s_exit ?_
        with_reducible refine s_thenE ?_
        with_reducible refine l_exit ?_
        with_reducible refine s_blkE ?_
        with_reducible refine s_then ?_
        with_reducible refine s_reg ?_
        refine smove ?_
        simp only [pu', p0', c1', c0', i1', z0', b8_nat]
        refine smove ?_
        simp only [pu', p0', c1', c0', i1', z0', b8_nat]
        refine smove ?_
        simp only [pu', p0', c1', c0', i1', z0', b8_nat]
        refine smove ?_
        simp only [pu', p0', c1', c0', i1', z0', b8_nat]
        refine sslcS ?_
        simp only [pu', p0', c1', c0', i1', z0', b8_nat]
        refine sC (hx := rfl) ((blkR _ _ (Nat.le_trans (cut_le _ _ _) hs) (by rw [cut_len (by omega)]; omega)).mono ?_)
        rintro _ m14 _ ⟨t, rfl, ht, htl, rfl⟩
        simp only [pu', p0', c1', c0', i1', n0', n3', n1', n2', a2', a1', a0', n4', Nat.reduceAdd, z0', n5', sa0, sa1, sa2, sa3, sa4, sa5, sa6, sa7, sa8, sa9, sa10, sa11]
        refine saddS ?_
        simp only [pu', p0', c1', c0', i1', z0', b8_nat]
        refine sassign ?_
        simp only [pu', p0', c1', c0', i1', z0', b8_nat]
        with_reducible refine s_end ?_
        with_reducible refine s_then ?_
        with_reducible refine s_reg ?_
        refine smove ?_
        simp only [pu', p0', c1', c0', i1', z0', b8_nat]
        refine sassign ?_
        simp only [pu', p0', c1', c0', i1', z0', b8_nat]
        with_reducible refine s_end ?_
        with_reducible refine s_blkN ?_
        with_reducible refine s_then ?_
        with_reducible refine s_reg ?_
        refine smove ?_
        simp only [pu', p0', c1', c0', i1', z0', b8_nat]
        refine sadd ?_
        simp only [pu', p0', c1', c0', i1', z0', b8_nat]
        refine sassign ?_
        simp only [pu', p0', c1', c0', i1', z0', b8_nat]
        with_reducible refine s_end ?_
        rotate_left 1
      · refine l_next (n + 1) ⟨by omega, by omega, fun j h1 h2 => ?_⟩ (by omega) (by rfl) rfl
        rcases (by omega : (j : Int) < n ∨ j = n.toNat) with h3 | rfl
        · exact n2 j h1 h3
        · exact UInt8.toNat_inj.1 (by omega)
      all_goals
        refine l_next ⟨i + 1, n, bs ++ [rleB s a.toNat n.toNat]⟩ ⟨by simp only []; omega, nx n _ (by omega) n1 rfl ⟨rfl, Nat.le_trans (cut_le _ _ _) hs, .inr ⟨rfl, by rw [show (rleB s a.toNat n.toNat).q = (s.take n.toNat).drop a.toNat from rfl, cut_len (by omega)]; omega, _, cut_rep (by omega) (by omega) fun j h1 h2 => n2 j h1 (by omega)⟩⟩⟩ (by simp only []; omega) ?_ rfl
        rw [er, ← ht]
        rfl
    all_goals
      refine l_next ⟨i + 1, n, bs ++ [rawB s a.toNat n.toNat]⟩ ⟨by simp only []; omega, nx n _ n0.1 n0.2 rfl ⟨rfl, Nat.le_trans cl hs, .inl rfl⟩⟩ (by simp only []; omega) ?_ rfl
      rw [ew, ← ht]
      rfl
  all_goals
    all_goals try with_reducible refine w_n ?_
    all_goals refine w_1 rfl (by first | exact v_t (by rfl) | exact v_c1 (C1.p) (by rfl) (HA.p) (by rfl) | exact v_cF (CA.p) (by rfl) (HA.p) (by rfl)) ?_
    refine ⟨⟨bs, s.drop a.toNat, ?_, g4, ?_, by omega⟩, rfl⟩
    · rw [ht]; simp [fra, encb, lastB]
    · rw [g3, List.take_append_drop]
end Go.Proofs.YtgjbmhclgmpjdaaGreat
