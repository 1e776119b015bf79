/-
  A part of the proof of a statement of a chapter's seat; conditions: stated at each theorem.
-/
import Derived.Test.YtgbddbiimffplaaN4
set_option linter.unusedVariables false
set_option linter.unusedSectionVars false
set_option linter.unusedSimpArgs false
set_option linter.unusedVariables false
set_option maxRecDepth 100000
set_option maxHeartbeats 8000000
namespace Go.Proofs.Ytgbddbiimffplaa
open Go.Az Go
structure RoA where
  k : Nat
  G : Hp
structure RoB where
  i : Nat
  t : Nat
  G : Hp
structure RoC where
  j : Nat
  t : Nat
  G : Hp
def ofL (L : Int) (ps : List Int) : List Int := if dE L ps = 0 then sprd (2 ^ L.toNat) ps else []
/-- The cells after k symbols, j more of the next one, t steps on. -/
def ofS (z : Nat) (ps : List Int) (k j t : Nat) : List Int := put (rarO z (rarF ps 0)) (vis z (symF ps 0).length t) (symF (ps.take k) 0 ++ List.replicate j (k : Int))
theorem ofS_next {z : Nat} {ps : List Int} {k j t : Nat} (hp : posN z t < (symF ps 0).length) (hl : (vis z (symF ps 0).length t).length = (symF (ps.take k) 0).length + j) : (ofS z ps k j t).set (posN z t) (k : Int) = ofS z ps k (j + 1) (t + 1) := by
  unfold ofS
  rw [vis_go hp, List.replicate_succ', ← List.append_assoc, put_snoc _ _ _ _ _ (by rw [hl, List.length_append, List.length_replicate])]
theorem ofS_skip {z : Nat} {ps : List Int} {k j t : Nat} (hp : ¬ posN z t < (symF ps 0).length) : ofS z ps k j t = ofS z ps k j (t + 1) := by
  unfold ofS
  rw [vis_no hp]
theorem ofS_sym {z : Nat} {ps : List Int} {k j t : Nat} (hk : k < ps.length) (hj : j = (ps.getD k 0).toNat) : ofS z ps k j t = ofS z ps (k + 1) 0 t := by
  unfold ofS
  rw [symF_take _ _ _ hk, Int.zero_add, ← hj, List.replicate_zero, List.append_nil]
theorem put_nil (o : List Int) (cs : List Nat) : put o cs [] = o := by cases cs <;> rfl
theorem ofS_end {z : Nat} {ps : List Int} {k t : Nat} (hk : ps.length ≤ k) (ht : t = z ∨ (symF ps 0).length = 0) : ofS z ps k 0 t = sprd z ps := by
  unfold ofS sprd
  rw [List.take_of_length_le hk, List.replicate_zero, List.append_nil]
  rcases ht with h | h
  · rw [h]
  · have : symF ps 0 = [] := List.eq_nil_of_length_eq_zero h
    rw [this, put_nil, put_nil]
theorem ofS_len {z : Nat} {ps : List Int} (h : DistOk z ps) (k j t : Nat) : (ofS z ps k j t).length = z := by
  have := h.split
  rw [ofS, put_len, rarO_len (by omega)]
theorem ofS_zero {z : Nat} {ps : List Int} : ofS z ps 0 0 0 = rarO z (rarF ps 0) := rfl
/-- Where the walk stands. -/
structure Wlk (z : Nat) (ps : List Int) (k j t : Nat) : Prop where
  le : t ≤ z
  len : (vis z (symF ps 0).length t).length = (symF (ps.take k) 0).length + j
  free : (symF ps 0).length = 0 ∨ posN z t < (symF ps 0).length
theorem Wlk.lt {z : Nat} {ps : List Int} {k j t : Nat} (w : Wlk z ps k j t) (h : DistOk z ps) (hk : k < ps.length) (hj : (j : Int) < ps.getD k 0) : posN z t < (symF ps 0).length ∧ t < z := by
  have hs := h.split
  have h1 := rar_len h (k + 1)
  rw [symF_take _ _ _ hk, List.length_append, List.length_replicate] at h1
  have hp : posN z t < (symF ps 0).length := by
    rcases w.free with h2 | h2
    · omega
    · exact h2
  refine ⟨hp, vis_lt (m := (symF ps 0).length) h.okz (by omega) w.le (by rw [w.len]; omega)⟩
theorem Wlk.done {z : Nat} {ps : List Int} {k t : Nat} (w : Wlk z ps k 0 t) (h : DistOk z ps) (hk : ps.length ≤ k) : t = z ∨ (symF ps 0).length = 0 := by
  have hs := h.split
  rcases w.free with h2 | h2
  · exact .inr h2
  · left
    refine Classical.byContradiction fun hn => ?_
    have hlt := w.le
    have h3 := vis_more h.okz (m := (symF ps 0).length) (by omega) (show t < z by omega) h2
    have h4 := w.len
    rw [List.take_of_length_le hk] at h4
    omega
theorem Wlk.sym {z : Nat} {ps : List Int} {k j t : Nat} (w : Wlk z ps k j t) (hk : k < ps.length) (hj : j = (ps.getD k 0).toNat) : Wlk z ps (k + 1) 0 t := by
  refine ⟨w.le, ?_, w.free⟩
  rw [w.len, symF_take _ _ _ hk, List.length_append, List.length_replicate]
  omega
theorem Wlk.zero {z : Nat} {ps : List Int} : Wlk z ps 0 0 0 := ⟨Nat.zero_le _, rfl, by rw [pos_zero]; omega⟩
theorem rof17 (h : Hp) (s : AV) (L : Int) (ps : List Int) [a : EI h s ps] (hlen : ps.length ≤ 1099511627776) : ACalls Try.prog 35 [DA s L] h (fun r h' => ∃ z, r = .tup [z, I (dE L ps)] ∧ SlC z ∧ Sep h h' [WI z (ofL L ps)]) := by
  have pss := a.p.sl
  have S0 := Sep.nil h
  have c14 := fun Y (a : EI Y s ps) => check14 Y s L ps hlen
  by_cases he : dE L ps = 0
  · obtain ⟨n, rfl, h5, h12, hok, hl1, hl2, hlast⟩ := dE_ok he
    have c23 := rstep23 (n : Int)
    rw [stpR, stpE, if_neg (by omega), if_neg (by omega), Int.toNat_natCast] at c23
    rw [ofL, if_pos he, he, Int.toNat_natCast]
    rw [he] at c14
    have hz := okZ_pos hok.okz
    have e := pow_z n
    have hs := hok.split
    generalize hzz : 2 ^ n = z at *
    have hst := stp_int z
    have hgd := fun (k : Nat) (hk : k < ps.length) => hok.ge _ (getD_mem hk)
    clear he
    refine acalls_of_wk hm Try.func35 rfl ?_
    simp only [Try.ntmps35, List.length_cons, List.length_nil, Nat.reduceAdd, Nat.reduceSub, List.reduceReplicate, List.cons_append, List.nil_append]
    show wk _ _ none _ _ ⟨_, []⟩ _
    with_reducible refine s_seq ?_
    with_reducible refine s_reg ?_
    refine sboxA ?_
    simp only [pu', p0', c1', c0', i1', n0', n3', n1', n2', a2', a1', a0', n4', Nat.reduceAdd, z0', n5', sa0, sa1, sa2, sa3, sa4, sa5, sa6, sa7, sa8, sa9, sa10, sa11]
    refine sassign ?_
    simp only [pu', p0', c1', c0', i1', z0', b8_nat]
    refine sassign ?_
    simp only [pu', p0', c1', c0', i1', z0', b8_nat]
    with_reducible refine s_end ?_
    with_reducible refine s_then ?_
    with_reducible refine s_seq ?_
    with_reducible refine s_reg ?_
    refine sloadW ?_
    simp only [pu', p0', c1', c0', i1', z0', b8_nat]
    refine sM (hx := rfl) (c14 _ inferInstance) ?_
    simp only [pu', p0', c1', c0', i1', z0', b8_nat]
    refine sassign ?_
    simp only [pu', p0', c1', c0', i1', z0', b8_nat]
    with_reducible refine s_end ?_
    with_reducible refine s_then ?_
    with_reducible refine s_seq ?_
    with_reducible refine s_seq ?_
    with_reducible refine s_reg ?_
    refine smove ?_
    simp only [pu', p0', c1', c0', i1', z0', b8_nat]
    refine sNe (fun hb => ?_) (fun hb => ?_)
    replace hb := dT' hb
    (exfalso; omega)
    replace hb := dF' hb
    simp only [pu', p0', c1', c0', i1', z0', b8_nat]
    with_reducible refine s_end ?_
    with_reducible refine s_then ?_
    refine sCF ?_
    with_reducible refine s_skip ?_
    with_reducible refine s_then ?_
    with_reducible refine s_seq ?_
    with_reducible refine s_reg ?_
    refine sfad ?_
    simp only [pu', p0', c1', c0', i1', z0', b8_nat]
    refine sload1 ?_
    simp only [pu', p0', c1', c0', i1', z0', b8_nat]
    refine sconv ?_
    simp only [pu', p0', c1', c0', i1', z0', b8_nat]
    refine sshl1 ?_
    simp only [pu', p0', c1', c0', i1', z0', b8_nat]
    refine sassign ?_
    simp only [pu', p0', c1', c0', i1', z0', b8_nat]
    with_reducible refine s_end ?_
    with_reducible refine s_then ?_
    with_reducible refine s_seq ?_
    with_reducible refine s_reg ?_
    refine sfad ?_
    simp only [pu', p0', c1', c0', i1', z0', b8_nat]
    refine sload1 ?_
    simp only [pu', p0', c1', c0', i1', z0', b8_nat]
    refine sK (hx := rfl) (c23) ?_
    simp only [pu', p0', c1', c0', i1', z0', b8_nat]
    refine smove ?_
    simp only [pu', p0', c1', c0', i1', z0', b8_nat]
    refine sext ?_
    simp only [pu', p0', c1', c0', i1', z0', b8_nat]
    refine sext ?_
    simp only [pu', p0', c1', c0', i1', z0', b8_nat]
    refine sassign ?_
    simp only [pu', p0', c1', c0', i1', z0', b8_nat]
    refine sassign ?_
    simp only [pu', p0', c1', c0', i1', z0', b8_nat]
    with_reducible refine s_end ?_
    with_reducible refine s_then ?_
    with_reducible refine s_seq ?_
    with_reducible refine s_reg ?_
    refine smove ?_
    simp only [pu', p0', c1', c0', i1', z0', b8_nat]
    (refine s_mks (n := (2 : Int) ^ n) (encI .i64) (0 : Int) (fun z1 Y1 pz1 T1 => ?_) inferInstance iok inferInstance rfl (by omega) (by omega) (by omega); rw [e, Int.toNat_natCast] at T1; simp only [Fr.put, List.set_cons_succ, List.set_cons_zero, Int.toNat_natCast, Nat.zero_add])
    refine sassign ?_
    simp only [pu', p0', c1', c0', i1', z0', b8_nat]
    with_reducible refine s_end ?_
    with_reducible refine s_then ?_
    with_reducible refine s_seq ?_
    with_reducible refine s_reg ?_
    refine smove ?_
    simp only [pu', p0', c1', c0', i1', z0', b8_nat]
    (refine s_mks (n := (2 : Int) ^ n) encB false (fun z2 Y2 pz2 T2 => ?_) inferInstance encB_ok inferInstance rfl (by omega) (by omega) (by omega); rw [e, Int.toNat_natCast] at T2; simp only [Fr.put, List.set_cons_succ, List.set_cons_zero, Int.toNat_natCast, Nat.zero_add])
    refine sassign ?_
    simp only [pu', p0', c1', c0', i1', z0', b8_nat]
    with_reducible refine s_end ?_
    with_reducible refine s_then ?_
    with_reducible refine s_seq ?_
    with_reducible refine s_reg ?_
    refine smove ?_
    simp only [pu', p0', c1', c0', i1', z0', b8_nat]
    refine ssub ?_
    simp only [pu', p0', c1', c0', i1', z0', b8_nat]
    refine sassign ?_
    simp only [pu', p0', c1', c0', i1', z0', b8_nat]
    with_reducible refine s_end ?_
    with_reducible refine s_then ?_
    with_reducible refine s_seq ?_
    with_reducible refine s_seq ?_
    with_reducible refine s_reg ?_
    refine sassign ?_
    simp only [pu', p0', c1', c0', i1', z0', b8_nat]
    with_reducible refine s_end ?_
    with_reducible refine s_then ?_
    with_reducible refine s_block ?_
    refine s_loop hm (fun (b : RoA) s' => [s' 0, .ptr h.length 0, s' 2, s' 3, s' 4, I (2 ^ n), I (stpN z), s' 7, z1, z2, I ((z : Int) - 1 - (rarF (ps.take b.k) 0).length), I b.k, s' 12, s' 13, s' 14, s' 15, s' 16, s' 17, s' 18, s' 19, s' 20, s' 21, s' 22, s' 23, s' 24, s' 25, s' 26, s' 27, s' 28, s' 29, s' 30, s' 31, s' 32, s' 33, s' 34, s' 35, s' 36, s' 37, s' 38, s' 39, s' 40, s' 41, s' 42, s' 43, s' 44, s' 45, s' 46, s' 47, s' 48, s' 49, s' 50, s' 51, s' 52, s' 53, s' 54, s' 55, s' 56, s' 57, s' 58, s' 59, s' 60, s' 61, s' 62, s' 63, s' 64, s' 65, s' 66, s' 67, s' 68, s' 69, s' 70, s' 71, s' 72, s' 73, s' 74, s' 75, s' 76, s' 77, s' 78, s' 79, s' 80, s' 81, s' 82, s' 83, s' 84, s' 85, s' 86, s' 87, s' 88, s' 89, s' 90, s' 91, s' 92]) (fun b => b.G) (fun b => b.k ≤ ps.length ∧ Sep h b.G [pcC h.length (.cells [I n, s] 24 true), WI z1 (rarO z (rarF (ps.take b.k) 0)), WB z2 (rarB z (rarF (ps.take b.k) 0).length)]) (fun b => ps.length - b.k) ⟨0, _⟩ (by rw [e]; simp only [List.take_zero, rarF, List.length_nil]; rw [show (z : Int) - 1 - ((0 : Nat) : Int) = (z : Int) - 1 by omega]; rfl) rfl ⟨Nat.zero_le _, ?_⟩ ?_
    · simp only [List.take_zero, rarF, List.length_nil, rarO_nil]
      rw [show rarB z 0 = List.replicate z false by simp [rarB]]
      exact Sep.sub inferInstance (by repeat' first | exact List.Sublist.refl _ | exact List.sublist_append_left _ _ | exact List.nil_sublist _ | refine List.Sublist.cons_cons _ ?_ | refine List.Sublist.cons _ ?_ | refine List.Sublist.trans ?_ (List.sublist_append_left _ _))
    rintro ⟨k, G⟩ s' ⟨hk, S1⟩
    simp only [] at hk S1 ⊢
    have hr := rar_len hok k
    have hr1 := rar_len hok (k + 1)
    have hl1 := rarO_len (z := z) (rs := rarF (ps.take k) 0) (by omega)
    have hl2 := rarB_len (z := z) (n := (rarF (ps.take k) 0).length) (by omega)
    have hg := hgd k
    have ht := rarF_take ps 0 k
    have hx : ((z : Int) - 1 - ((rarF (ps.take k) 0).length : Int)).toNat = z - 1 - (rarF (ps.take k) 0).length := by omega
    by_cases hkl : k < ps.length
    · have ht' := ht hkl
      by_cases hv : ps.getD k 0 = -1
      · rw [if_pos hv, Int.zero_add] at ht'
        have hlen1 : (rarF (ps.take k) 0).length < z := by rw [ht', List.length_append, List.length_singleton] at hr1; omega
        have hset1 := rarO_set hlen1 (k : Int)
        have hset2 := rarB_set hlen1
        focus
          with_reducible refine s_seq ?_
          with_reducible refine s_seq ?_
          with_reducible refine s_reg ?_
          refine smove ?_
          simp only [pu', p0', c1', c0', i1', z0', b8_nat]
          refine sfad ?_
          simp only [pu', p0', c1', c0', i1', z0', b8_nat]
          refine sload1 ?_
          simp only [pu', p0', c1', c0', i1', z0', b8_nat]
          refine slenE ?_
          simp only [pu', p0', c1', c0', i1', z0', b8_nat]
          refine sLt (fun hb => ?_) (fun hb => ?_)
          replace hb := dT' hb
          simp only [pu', p0', c1', c0', i1', z0', b8_nat]
          with_reducible refine s_end ?_
          with_reducible refine s_then ?_
          refine sCT ?_
          with_reducible refine s_skip ?_
          with_reducible refine s_then ?_
          with_reducible refine s_seq ?_
          with_reducible refine s_block ?_
          with_reducible refine s_seq ?_
          with_reducible refine s_reg ?_
          refine sfad ?_
          simp only [pu', p0', c1', c0', i1', z0', b8_nat]
          refine sload1 ?_
          simp only [pu', p0', c1', c0', i1', z0', b8_nat]
          refine smove ?_
          simp only [pu', p0', c1', c0', i1', z0', b8_nat]
          refine sidxE ?_
          simp only [pu', p0', c1', c0', i1', z0', b8_nat]
          refine sloadE1 ?_
          simp only [pu', p0', c1', c0', i1', z0', b8_nat]
          refine sEq (fun hb => ?_) (fun hb => ?_)
          replace hb := dT' hb
          simp only [pu', p0', c1', c0', i1', z0', b8_nat]
          with_reducible refine s_end ?_
          with_reducible refine s_then ?_
          refine sCT ?_
          with_reducible refine s_seq ?_
          with_reducible refine s_reg ?_
          refine smove ?_
          simp only [pu', p0', c1', c0', i1', z0', b8_nat]
          refine smove ?_
          simp only [pu', p0', c1', c0', i1', z0', b8_nat]
          refine smove ?_
          simp only [pu', p0', c1', c0', i1', z0', b8_nat]
          refine smove ?_
          simp only [pu', p0', c1', c0', i1', z0', b8_nat]
          refine smove ?_
          simp only [pu', p0', c1', c0', i1', z0', b8_nat]
          refine sidxE ?_
          simp only [pu', p0', c1', c0', i1', z0', b8_nat]
          (refine s_stE (x := (z : Int) - 1 - ((rarF (ps.take k) 0).length : Int)) 1 (k : Int) (0 : Int) (fun Y1 T1 => ?_) inferInstance rfl iok inferInstance (by omega) (by omega) (by rfl) inferInstance; simp only [a1', c1', c0', hx] at T1; simp only [Fr.put, List.set_cons_succ, List.set_cons_zero, Int.toNat_natCast, Nat.zero_add])
          refine sidxE ?_
          simp only [pu', p0', c1', c0', i1', z0', b8_nat]
          (refine s_stE (x := (z : Int) - 1 - ((rarF (ps.take k) 0).length : Int)) 2 true false (fun Y2 T2 => ?_) inferInstance rfl encB_ok inferInstance (by omega) (by omega) (by rfl) inferInstance; simp only [a1', c1', c0', hx] at T2; simp only [Fr.put, List.set_cons_succ, List.set_cons_zero, Int.toNat_natCast, Nat.zero_add])
          with_reducible refine s_end ?_
          with_reducible refine s_then ?_
          with_reducible refine s_reg ?_
          refine smove ?_
          simp only [pu', p0', c1', c0', i1', z0', b8_nat]
          refine ssub ?_
          simp only [pu', p0', c1', c0', i1', z0', b8_nat]
          refine sassign ?_
          simp only [pu', p0', c1', c0', i1', z0', b8_nat]
          with_reducible refine s_end ?_
          with_reducible refine s_blkN ?_
          with_reducible refine s_then ?_
          with_reducible refine s_reg ?_
          refine smove ?_
          simp only [pu', p0', c1', c0', i1', z0', b8_nat]
          refine sadd ?_
          simp only [pu', p0', c1', c0', i1', z0', b8_nat]
          refine sassign ?_
          simp only [pu', p0', c1', c0', i1', z0', b8_nat]
          with_reducible refine s_end ?_
          rotate_left 1
          replace hb := dF' hb
          exact absurd (by with_reducible assumption) hb
          replace hb := dF' hb
          (exfalso; omega)
        rw [hset1, ← ht'] at T2
        rw [hset2, show (rarF (ps.take k) 0).length + 1 = (rarF (ps.take (k + 1)) 0).length by rw [ht', List.length_append]; rfl] at T2
        refine l_next ⟨k + 1, _⟩ ⟨by simp only []; omega, T2⟩ (by simp only []; omega) (by
          simp only []
          rw [show (z : Int) - 1 - ((rarF (ps.take (k + 1)) 0).length : Int) = (z : Int) - 1 - ((rarF (ps.take k) 0).length : Int) - 1 by rw [ht', List.length_append, List.length_singleton]; push_cast; omega]
          rfl) rfl
      · rw [if_neg hv, List.append_nil] at ht'
        focus
          with_reducible refine s_seq ?_
          with_reducible refine s_seq ?_
          with_reducible refine s_reg ?_
          refine smove ?_
          simp only [pu', p0', c1', c0', i1', z0', b8_nat]
          refine sfad ?_
          simp only [pu', p0', c1', c0', i1', z0', b8_nat]
          refine sload1 ?_
          simp only [pu', p0', c1', c0', i1', z0', b8_nat]
          refine slenE ?_
          simp only [pu', p0', c1', c0', i1', z0', b8_nat]
          refine sLt (fun hb => ?_) (fun hb => ?_)
          replace hb := dT' hb
          simp only [pu', p0', c1', c0', i1', z0', b8_nat]
          with_reducible refine s_end ?_
          with_reducible refine s_then ?_
          refine sCT ?_
          with_reducible refine s_skip ?_
          with_reducible refine s_then ?_
          with_reducible refine s_seq ?_
          with_reducible refine s_block ?_
          with_reducible refine s_seq ?_
          with_reducible refine s_reg ?_
          refine sfad ?_
          simp only [pu', p0', c1', c0', i1', z0', b8_nat]
          refine sload1 ?_
          simp only [pu', p0', c1', c0', i1', z0', b8_nat]
          refine smove ?_
          simp only [pu', p0', c1', c0', i1', z0', b8_nat]
          refine sidxE ?_
          simp only [pu', p0', c1', c0', i1', z0', b8_nat]
          refine sloadE1 ?_
          simp only [pu', p0', c1', c0', i1', z0', b8_nat]
          refine sEq (fun hb => ?_) (fun hb => ?_)
          replace hb := dT' hb
          (exfalso; omega)
          replace hb := dF' hb
          simp only [pu', p0', c1', c0', i1', z0', b8_nat]
          with_reducible refine s_end ?_
          with_reducible refine s_then ?_
          refine sCF ?_
          with_reducible refine s_skip ?_
          with_reducible refine s_blkN ?_
          with_reducible refine s_then ?_
          with_reducible refine s_reg ?_
          refine smove ?_
          simp only [pu', p0', c1', c0', i1', z0', b8_nat]
          refine sadd ?_
          simp only [pu', p0', c1', c0', i1', z0', b8_nat]
          refine sassign ?_
          simp only [pu', p0', c1', c0', i1', z0', b8_nat]
          with_reducible refine s_end ?_
          rotate_left 1
          replace hb := dF' hb
          (exfalso; omega)
        refine l_next ⟨k + 1, _⟩ ⟨by simp only []; omega, by simp only []; rw [ht']; exact S1⟩ (by simp only []; omega) (by
          simp only []
          rw [ht']
          rfl) rfl
    · rw [List.take_of_length_le (by omega)] at S1
      clear hr hr1 hl1 hl2 hg ht hx
      have hl2 := rarB_len (z := z) (n := (rarF ps 0).length) (by omega)
      have hBt := fun (i : Nat) (hi : i < z) => rarB_at (z := z) (n := (rarF ps 0).length) (by omega) hi
      with_reducible refine s_seq ?_
      with_reducible refine s_seq ?_
      with_reducible refine s_reg ?_
      refine smove ?_
      simp only [pu', p0', c1', c0', i1', z0', b8_nat]
      refine sfad ?_
      simp only [pu', p0', c1', c0', i1', z0', b8_nat]
      refine sload1 ?_
      simp only [pu', p0', c1', c0', i1', z0', b8_nat]
      refine slenE ?_
      simp only [pu', p0', c1', c0', i1', z0', b8_nat]
      refine sLt (fun hb => ?_) (fun hb => ?_)
      replace hb := dT' hb
      (exfalso; omega)
      replace hb := dF' hb
      simp only [pu', p0', c1', c0', i1', z0', b8_nat]
      with_reducible refine s_end ?_
      with_reducible refine s_then ?_
      refine sCF ?_
      with_reducible refine s_exit ?_
      with_reducible refine s_thenE ?_
      with_reducible refine l_exit ?_
      with_reducible refine s_blkE ?_
      with_reducible refine s_then ?_
      with_reducible refine s_seq ?_
      with_reducible refine s_reg ?_
      refine sassign ?_
      simp only [pu', p0', c1', c0', i1', z0', b8_nat]
      with_reducible refine s_end ?_
      with_reducible refine s_then ?_
      with_reducible refine s_seq ?_
      with_reducible refine s_seq ?_
      with_reducible refine s_reg ?_
      refine sassign ?_
      simp only [pu', p0', c1', c0', i1', z0', b8_nat]
      with_reducible refine s_end ?_
      with_reducible refine s_then ?_
      with_reducible refine s_block ?_
      refine s_loop hm (fun (b : RoB) s' => [s' 0, .ptr h.length 0, s' 2, s' 3, s' 4, I (2 ^ n), I (stpN z), s' 7, z1, z2, s' 10, s' 11, I (posN z b.t), I b.i, s' 14, s' 15, s' 16, s' 17, s' 18, s' 19, s' 20, s' 21, s' 22, s' 23, s' 24, s' 25, s' 26, s' 27, s' 28, s' 29, s' 30, s' 31, s' 32, s' 33, s' 34, s' 35, s' 36, s' 37, s' 38, s' 39, s' 40, s' 41, s' 42, s' 43, s' 44, s' 45, s' 46, s' 47, s' 48, s' 49, s' 50, s' 51, s' 52, s' 53, s' 54, s' 55, s' 56, s' 57, s' 58, s' 59, s' 60, s' 61, s' 62, s' 63, s' 64, s' 65, s' 66, s' 67, s' 68, s' 69, s' 70, s' 71, s' 72, s' 73, s' 74, s' 75, s' 76, s' 77, s' 78, s' 79, s' 80, s' 81, s' 82, s' 83, s' 84, s' 85, s' 86, s' 87, s' 88, s' 89, s' 90, s' 91, s' 92]) (fun b => b.G) (fun b => b.i ≤ ps.length ∧ Wlk z ps b.i 0 b.t ∧ Sep h b.G [pcC h.length (.cells [I n, s] 24 true), WI z1 (ofS z ps b.i 0 b.t), WB z2 (rarB z (rarF ps 0).length)]) (fun b => ps.length - b.i) ⟨0, 0, _⟩ (by rw [pos_zero]; rfl) rfl ⟨Nat.zero_le _, Wlk.zero, S1⟩ ?_
      clear S1 hk
      rintro ⟨i, t, G⟩ s' ⟨hi, W1, S1⟩
      simp only [] at hi W1 S1 ⊢
      have hg := hgd i
      by_cases hil : i < ps.length
      · have hil' : (i : Int) < ps.length := by omega
        focus
          with_reducible refine s_seq ?_
          with_reducible refine s_seq ?_
          with_reducible refine s_reg ?_
          refine smove ?_
          simp only [pu', p0', c1', c0', i1', z0', b8_nat]
          refine sfad ?_
          simp only [pu', p0', c1', c0', i1', z0', b8_nat]
          refine sload1 ?_
          simp only [pu', p0', c1', c0', i1', z0', b8_nat]
          refine slenE ?_
          simp only [pu', p0', c1', c0', i1', z0', b8_nat]
          refine sLt (fun hb => ?_) (fun hb => ?_)
          replace hb := dT' hb
          simp only [pu', p0', c1', c0', i1', z0', b8_nat]
          with_reducible refine s_end ?_
          with_reducible refine s_then ?_
          refine sCT ?_
          with_reducible refine s_skip ?_
          with_reducible refine s_then ?_
          with_reducible refine s_seq ?_
          with_reducible refine s_block ?_
          with_reducible refine s_seq ?_
          with_reducible refine s_reg ?_
          refine sassign ?_
          simp only [pu', p0', c1', c0', i1', z0', b8_nat]
          with_reducible refine s_end ?_
          with_reducible refine s_then ?_
          with_reducible refine s_block ?_
          rotate_left 1
          replace hb := dF' hb
          exact absurd (by with_reducible assumption) hb
        refine s_loop hm (fun (b : RoC) s' => [s' 0, .ptr h.length 0, s' 2, s' 3, s' 4, I (2 ^ n), I (stpN z), s' 7, z1, z2, s' 10, s' 11, I (posN z b.t), I i, I b.j, s' 15, s' 16, s' 17, s' 18, s' 19, s' 20, s' 21, s' 22, s' 23, s' 24, s' 25, s' 26, s' 27, s' 28, s' 29, s' 30, s' 31, s' 32, s' 33, s' 34, s' 35, s' 36, s' 37, s' 38, s' 39, s' 40, s' 41, s' 42, s' 43, s' 44, s' 45, s' 46, s' 47, s' 48, s' 49, s' 50, s' 51, s' 52, s' 53, s' 54, s' 55, s' 56, s' 57, s' 58, s' 59, s' 60, s' 61, s' 62, s' 63, s' 64, s' 65, s' 66, s' 67, s' 68, s' 69, s' 70, s' 71, s' 72, s' 73, s' 74, s' 75, s' 76, s' 77, s' 78, s' 79, s' 80, s' 81, s' 82, s' 83, s' 84, s' 85, s' 86, s' 87, s' 88, s' 89, s' 90, s' 91, s' 92]) (fun b => b.G) (fun b => b.j ≤ (ps.getD i 0).toNat ∧ Wlk z ps i b.j b.t ∧ Sep h b.G [pcC h.length (.cells [I n, s] 24 true), WI z1 (ofS z ps i b.j b.t), WB z2 (rarB z (rarF ps 0).length)]) (fun b => (ps.getD i 0).toNat - b.j) ⟨0, t, _⟩ (by rfl) rfl ⟨Nat.zero_le _, W1, S1⟩ ?_
        clear S1 W1
        rintro ⟨j, t, G⟩ s' ⟨hj, W1, S1⟩
        simp only [] at hj W1 S1 ⊢
        have hol := ofS_len hok i j t
        have hx : ((posN z t : Nat) : Int).toNat = posN z t := Int.toNat_natCast _
        by_cases hjl : (j : Int) < ps.getD i 0
        · obtain ⟨hp, htz⟩ := W1.lt hok hil hjl
          have hsum := hok.sum
          have hpl := pts_le ps _ (getD_mem hil)
          have hpz := pos_lt hok.okz t
          have hset := ofS_next hp W1.len
          have hrem : ((posN z t : Int) + (stpN z : Int)) % 2 ^ n = (posN z (t + 1) : Int) := by
            rw [e, pos_succ]; push_cast; rfl
          focus
            with_reducible refine s_seq ?_
            with_reducible refine s_seq ?_
            with_reducible refine s_reg ?_
            refine smove ?_
            simp only [pu', p0', c1', c0', i1', z0', b8_nat]
            refine sfad ?_
            simp only [pu', p0', c1', c0', i1', z0', b8_nat]
            refine sload1 ?_
            simp only [pu', p0', c1', c0', i1', z0', b8_nat]
            refine smove ?_
            simp only [pu', p0', c1', c0', i1', z0', b8_nat]
            refine sidxE ?_
            simp only [pu', p0', c1', c0', i1', z0', b8_nat]
            refine sloadE1 ?_
            simp only [pu', p0', c1', c0', i1', z0', b8_nat]
            refine sLt (fun hb => ?_) (fun hb => ?_)
            replace hb := dT' hb
            simp only [pu', p0', c1', c0', i1', z0', b8_nat]
            with_reducible refine s_end ?_
            with_reducible refine s_then ?_
            refine sCT ?_
            with_reducible refine s_skip ?_
            with_reducible refine s_then ?_
            with_reducible refine s_seq ?_
            with_reducible refine s_block ?_
            with_reducible refine s_seq ?_
            with_reducible refine s_reg ?_
            refine smove ?_
            simp only [pu', p0', c1', c0', i1', z0', b8_nat]
            refine smove ?_
            simp only [pu', p0', c1', c0', i1', z0', b8_nat]
            refine smove ?_
            simp only [pu', p0', c1', c0', i1', z0', b8_nat]
            refine sidxE ?_
            simp only [pu', p0', c1', c0', i1', z0', b8_nat]
            (refine s_stE (x := ((posN z t : Nat) : Int)) 1 (i : Int) (0 : Int) (fun Y1 T1 => ?_) inferInstance rfl iok inferInstance (by omega) (by omega) (by rfl) inferInstance; simp only [a1', c1', c0', hx, hset] at T1; simp only [Fr.put, List.set_cons_succ, List.set_cons_zero, Int.toNat_natCast, Nat.zero_add])
            with_reducible refine s_end ?_
            with_reducible refine s_then ?_
            with_reducible refine s_seq ?_
            with_reducible refine s_reg ?_
            refine smove ?_
            simp only [pu', p0', c1', c0', i1', z0', b8_nat]
            refine smove ?_
            simp only [pu', p0', c1', c0', i1', z0', b8_nat]
            refine sadd ?_
            simp only [pu', p0', c1', c0', i1', z0', b8_nat]
            refine smove ?_
            simp only [pu', p0', c1', c0', i1', z0', b8_nat]
            refine srem ?_
            simp only [pu', p0', c1', c0', i1', z0', b8_nat]
            refine sassign ?_
            simp only [pu', p0', c1', c0', i1', z0', b8_nat]
            with_reducible refine s_end ?_
            with_reducible refine s_then ?_
            with_reducible refine s_block ?_
            rotate_left 1
            replace hb := dF' hb
            exact absurd (by with_reducible assumption) hb
          refine s_loop hm (fun (b : RoA) s' => [s' 0, .ptr h.length 0, s' 2, s' 3, s' 4, I (2 ^ n), I (stpN z), s' 7, z1, z2, s' 10, s' 11, I (posN z b.k), I i, I j, s' 15, s' 16, s' 17, s' 18, s' 19, s' 20, s' 21, s' 22, s' 23, s' 24, s' 25, s' 26, s' 27, s' 28, s' 29, s' 30, s' 31, s' 32, s' 33, s' 34, s' 35, s' 36, s' 37, s' 38, s' 39, s' 40, s' 41, s' 42, s' 43, s' 44, s' 45, s' 46, s' 47, s' 48, s' 49, s' 50, s' 51, s' 52, s' 53, s' 54, s' 55, s' 56, s' 57, s' 58, s' 59, s' 60, s' 61, s' 62, s' 63, s' 64, s' 65, s' 66, s' 67, s' 68, s' 69, s' 70, s' 71, s' 72, s' 73, s' 74, s' 75, s' 76, s' 77, s' 78, s' 79, s' 80, s' 81, s' 82, s' 83, s' 84, s' 85, s' 86, s' 87, s' 88, s' 89, s' 90, s' 91, s' 92]) (fun b => b.G) (fun b => b.k ≤ z ∧ (vis z (symF ps 0).length b.k).length = (symF (ps.take i) 0).length + (j + 1) ∧ Sep h b.G [pcC h.length (.cells [I n, s] 24 true), WI z1 (ofS z ps i (j + 1) b.k), WB z2 (rarB z (rarF ps 0).length)]) (fun b => z - b.k) ⟨t + 1, _⟩ (by rw [hrem]; rfl) rfl ⟨by simp only []; omega, by simp only []; rw [vis_go hp, List.length_append, W1.len]; rfl, T1⟩ ?_
          clear S1 T1 hset
          rintro ⟨u, G⟩ s' ⟨hu, hv, S1⟩
          simp only [] at hu hv S1 ⊢
          have hpu := pos_lt hok.okz u
          have hbu := hBt (posN z u) hpu
          have hxu : ((posN z u : Nat) : Int).toNat = posN z u := Int.toNat_natCast _
          have hremu : ((posN z u : Int) + (stpN z : Int)) % 2 ^ n = (posN z (u + 1) : Int) := by
            rw [e, pos_succ]; push_cast; rfl
          by_cases hfr : posN z u < (symF ps 0).length
          · rw [decide_eq_false (by omega)] at hbu
            with_reducible refine s_seq ?_
            with_reducible refine s_seq ?_
            with_reducible refine s_reg ?_
            refine smove ?_
            simp only [pu', p0', c1', c0', i1', z0', b8_nat]
            refine smove ?_
            simp only [pu', p0', c1', c0', i1', z0', b8_nat]
            refine sidxE ?_
            simp only [pu', p0', c1', c0', i1', z0', b8_nat]
            refine sloadE1 ?_
            simp only [pu', p0', c1', c0', i1', z0', b8_nat]
            with_reducible refine s_end ?_
            with_reducible refine s_then ?_
            rw [hbu]
            refine sCF ?_
            with_reducible refine s_exit ?_
            with_reducible refine s_thenE ?_
            with_reducible refine l_exit ?_
            with_reducible refine s_blkE ?_
            with_reducible refine s_blkN ?_
            with_reducible refine s_then ?_
            with_reducible refine s_reg ?_
            refine smove ?_
            simp only [pu', p0', c1', c0', i1', z0', b8_nat]
            refine sadd ?_
            simp only [pu', p0', c1', c0', i1', z0', b8_nat]
            refine sassign ?_
            simp only [pu', p0', c1', c0', i1', z0', b8_nat]
            with_reducible refine s_end ?_
            refine l_next ⟨j + 1, u, _⟩ ⟨by simp only []; omega, ⟨hu, hv, .inr hfr⟩, S1⟩ (by simp only []; omega) (by rfl) rfl
          · rw [decide_eq_true (by omega)] at hbu
            have huz : u ≠ z := fun e2 => hfr (by rw [e2, pos_end]; omega)
            with_reducible refine s_seq ?_
            with_reducible refine s_seq ?_
            with_reducible refine s_reg ?_
            refine smove ?_
            simp only [pu', p0', c1', c0', i1', z0', b8_nat]
            refine smove ?_
            simp only [pu', p0', c1', c0', i1', z0', b8_nat]
            refine sidxE ?_
            simp only [pu', p0', c1', c0', i1', z0', b8_nat]
            refine sloadE1 ?_
            simp only [pu', p0', c1', c0', i1', z0', b8_nat]
            with_reducible refine s_end ?_
            with_reducible refine s_then ?_
            rw [hbu]
            refine sCT ?_
            with_reducible refine s_skip ?_
            with_reducible refine s_then ?_
            with_reducible refine s_block ?_
            with_reducible refine s_reg ?_
            refine smove ?_
            simp only [pu', p0', c1', c0', i1', z0', b8_nat]
            refine smove ?_
            simp only [pu', p0', c1', c0', i1', z0', b8_nat]
            refine sadd ?_
            simp only [pu', p0', c1', c0', i1', z0', b8_nat]
            refine smove ?_
            simp only [pu', p0', c1', c0', i1', z0', b8_nat]
            refine srem ?_
            simp only [pu', p0', c1', c0', i1', z0', b8_nat]
            refine sassign ?_
            simp only [pu', p0', c1', c0', i1', z0', b8_nat]
            with_reducible refine s_end ?_
            with_reducible refine s_blkN ?_
            refine l_next ⟨u + 1, _⟩ ⟨by simp only []; omega, by simp only []; rw [vis_no hfr]; exact hv, by simp only []; rw [← ofS_skip hfr]; exact S1⟩ (by simp only []; omega) (by
              simp only []
              rw [hremu]
              rfl) rfl
        · have W2 := W1.sym hil (by omega)
          rw [ofS_sym hil (by omega)] at S1
          with_reducible refine s_seq ?_
          with_reducible refine s_seq ?_
          with_reducible refine s_reg ?_
          refine smove ?_
          simp only [pu', p0', c1', c0', i1', z0', b8_nat]
          refine sfad ?_
          simp only [pu', p0', c1', c0', i1', z0', b8_nat]
          refine sload1 ?_
          simp only [pu', p0', c1', c0', i1', z0', b8_nat]
          refine smove ?_
          simp only [pu', p0', c1', c0', i1', z0', b8_nat]
          refine sidxE ?_
          simp only [pu', p0', c1', c0', i1', z0', b8_nat]
          refine sloadE1 ?_
          simp only [pu', p0', c1', c0', i1', z0', b8_nat]
          refine sLt (fun hb => ?_) (fun hb => ?_)
          replace hb := dT' hb
          (exfalso; omega)
          replace hb := dF' hb
          simp only [pu', p0', c1', c0', i1', z0', b8_nat]
          with_reducible refine s_end ?_
          with_reducible refine s_then ?_
          refine sCF ?_
          with_reducible refine s_exit ?_
          with_reducible refine s_thenE ?_
          with_reducible refine l_exit ?_
          with_reducible refine s_blkE ?_
          with_reducible refine s_blkN ?_
          with_reducible refine s_then ?_
          with_reducible refine s_reg ?_
          refine smove ?_
          simp only [pu', p0', c1', c0', i1', z0', b8_nat]
          refine sadd ?_
          simp only [pu', p0', c1', c0', i1', z0', b8_nat]
          refine sassign ?_
          simp only [pu', p0', c1', c0', i1', z0', b8_nat]
          with_reducible refine s_end ?_
          refine l_next ⟨i + 1, t, _⟩ ⟨by simp only []; omega, W2, S1⟩ (by simp only []; omega) (by rfl) rfl
      · have hdn := W1.done hok (by omega)
        rw [ofS_end (by omega) hdn] at S1
        with_reducible refine s_seq ?_
        with_reducible refine s_seq ?_
        with_reducible refine s_reg ?_
        refine smove ?_
        simp only [pu', p0', c1', c0', i1', z0', b8_nat]
        refine sfad ?_
        simp only [pu', p0', c1', c0', i1', z0', b8_nat]
        refine sload1 ?_
        simp only [pu', p0', c1', c0', i1', z0', b8_nat]
        refine slenE ?_
        simp only [pu', p0', c1', c0', i1', z0', b8_nat]
        refine sLt (fun hb => ?_) (fun hb => ?_)
        replace hb := dT' hb
        (exfalso; omega)
        replace hb := dF' hb
        simp only [pu', p0', c1', c0', i1', z0', b8_nat]
        with_reducible refine s_end ?_
        with_reducible refine s_then ?_
        refine sCF ?_
        with_reducible refine s_exit ?_
        with_reducible refine s_thenE ?_
        with_reducible refine l_exit ?_
        with_reducible refine s_blkE ?_
        with_reducible refine s_then ?_
        with_reducible refine s_seq ?_
        with_reducible refine s_reg ?_
        refine smove ?_
        simp only [pu', p0', c1', c0', i1', z0', b8_nat]
        refine sassign ?_
        simp only [pu', p0', c1', c0', i1', z0', b8_nat]
        refine sassign ?_
        simp only [pu', p0', c1', c0', i1', z0', b8_nat]
        with_reducible refine s_end ?_
        with_reducible refine s_then ?_
        with_reducible refine s_ret ?_
        all_goals try with_reducible refine w_n ?_
        all_goals refine w_2 rfl (by first | exact v_t (by rfl) | exact v_c1 (C1.p) (by rfl) (HA.p) (by rfl) | exact v_cF (CA.p) (by rfl) (HA.p) (by rfl)) (by first | exact v_t (by rfl) | exact v_c1 (C1.p) (by rfl) (HA.p) (by rfl) | exact v_cF (CA.p) (by rfl) (HA.p) (by rfl)) ?_
        exact ⟨z1, rfl, pz1, Sep.sub inferInstance (by repeat' first | exact List.Sublist.refl _ | exact List.sublist_append_left _ _ | exact List.nil_sublist _ | refine List.Sublist.cons_cons _ ?_ | refine List.Sublist.cons _ ?_ | refine List.Sublist.trans ?_ (List.sublist_append_left _ _))⟩
  · rw [ofL, if_neg he]
    generalize dE L ps = e at *
    refine acalls_of_wk hm Try.func35 rfl ?_
    simp only [Try.ntmps35, List.length_cons, List.length_nil, Nat.reduceAdd, Nat.reduceSub, List.reduceReplicate, List.cons_append, List.nil_append]
    show wk _ _ none _ _ ⟨_, []⟩ _
    focus
      with_reducible refine s_seq ?_
      with_reducible refine s_reg ?_
      refine sboxA ?_
      simp only [pu', p0', c1', c0', i1', n0', n3', n1', n2', a2', a1', a0', n4', Nat.reduceAdd, z0', n5', sa0, sa1, sa2, sa3, sa4, sa5, sa6, sa7, sa8, sa9, sa10, sa11]
      refine sassign ?_
      simp only [pu', p0', c1', c0', i1', z0', b8_nat]
      refine sassign ?_
      simp only [pu', p0', c1', c0', i1', z0', b8_nat]
      with_reducible refine s_end ?_
      with_reducible refine s_then ?_
      with_reducible refine s_seq ?_
      with_reducible refine s_reg ?_
      refine sloadW ?_
      simp only [pu', p0', c1', c0', i1', z0', b8_nat]
      refine sM (hx := rfl) (c14 _ inferInstance) ?_
      simp only [pu', p0', c1', c0', i1', z0', b8_nat]
      refine sassign ?_
      simp only [pu', p0', c1', c0', i1', z0', b8_nat]
      with_reducible refine s_end ?_
      with_reducible refine s_then ?_
      with_reducible refine s_seq ?_
      with_reducible refine s_seq ?_
      with_reducible refine s_reg ?_
      refine smove ?_
      simp only [pu', p0', c1', c0', i1', z0', b8_nat]
      refine sNe (fun hb => ?_) (fun hb => ?_)
      replace hb := dT' hb
      simp only [pu', p0', c1', c0', i1', z0', b8_nat]
      with_reducible refine s_end ?_
      with_reducible refine s_then ?_
      refine sCT ?_
      with_reducible refine s_seq ?_
      with_reducible refine s_reg ?_
      refine smove ?_
      simp only [pu', p0', c1', c0', i1', z0', b8_nat]
      refine sassign ?_
      simp only [pu', p0', c1', c0', i1', z0', b8_nat]
      refine sassign ?_
      simp only [pu', p0', c1', c0', i1', z0', b8_nat]
      with_reducible refine s_end ?_
      with_reducible refine s_then ?_
      with_reducible refine s_ret ?_
      with_reducible refine s_thenR ?_
      rotate_left 1
      replace hb := dF' hb
      exact absurd (by with_reducible assumption) hb
    all_goals try with_reducible refine w_n ?_
    all_goals refine w_2 rfl (by first | exact v_t (by rfl) | exact v_c1 (C1.p) (by rfl) (HA.p) (by rfl) | exact v_cF (CA.p) (by rfl) (HA.p) (by rfl)) (by first | exact v_t (by rfl) | exact v_c1 (C1.p) (by rfl) (HA.p) (by rfl) | exact v_cF (CA.p) (by rfl) (HA.p) (by rfl)) ?_
    exact ⟨nilS, rfl, inferInstance, Sep.sub (Sep.addNil inferInstance _ _ _) (by repeat' first | exact List.Sublist.refl _ | exact List.sublist_append_left _ _ | exact List.nil_sublist _ | refine List.Sublist.cons_cons _ ?_ | refine List.Sublist.cons _ ?_ | refine List.Sublist.trans ?_ (List.sublist_append_left _ _))⟩
end Go.Proofs.Ytgbddbiimffplaa
