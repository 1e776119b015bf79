/-
  A part of the proof of a statement of a chapter's seat; conditions: stated at each theorem.
-/
import Derived.Test.YtfcgmkpihmiadaaP8
set_option linter.unusedVariables false
set_option linter.unusedSectionVars false
set_option linter.unusedSimpArgs false
set_option linter.unusedVariables false
set_option maxRecDepth 100000
set_option maxHeartbeats 8000000
namespace Go.Proofs.Ytfcgmkpihmiadaa
open Go.Az Go
theorem fail_eq {l : List Tk} {n : Nat} (hn : n < l.length) : ((fl l).set (n * 4 + 1) (B true)).set (n * 4 + 3) (I (if (l.getD n tk0).a + 1 < 1099511627776 then (l.getD n tk0).a + 1 else 1099511627776)) = fl (l.set n (failT (l.getD n tk0))) := by
  rw [set_f hn, set_a (by rw [List.length_set]; exact hn), getD_set hn, List.set_set]
  rw [failT, show min 1099511627776 ((l.getD n tk0).a + 1) = (if (l.getD n tk0).a + 1 < 1099511627776 then (l.getD n tk0).a + 1 else 1099511627776) by split <;> omega]
section
variable (j d : Int) (b : Bool) (h : Hp) (s : AV) (l : List Tk) (hS : TS h s l) (hlen : l.length ≤ 1099511627776)
include hS hlen
theorem rpick_any : ACalls Try.prog 44 [WA j d, s, B b] h (fun r h' => ∃ s', r = pkT (pickP j d l b) s' ∧ RetS encT 68 h (pickP j d l b).l s' h') := by
  refine ret_own (e := 68) encT_ok encT_p (pkT (pickP j d l b)) (pkT_ren _) (pkT_sc _) ?_
  by_cases hc : checkE j d l = 0
  case neg =>
    have hp : pickP j d l b = ⟨0, 0, [], 0, checkE j d l⟩ := by rw [pickP, if_pos (by simpa using hc)]
    rw [hp]
    refine acalls_of_wk hm Try.func44 rfl ?_
    simp only [Try.ntmps44, List.length_cons, List.length_nil, Nat.reduceAdd, Nat.reduceSub, List.reduceReplicate, List.cons_append, List.nil_append]
    show wk _ _ none _ _ ⟨_, []⟩ _
    have el1 := mkEL encT_ok tk0 hS
    focus
      with_reducible refine s_seq ?_
      with_reducible refine s_reg ?_
      refine sboxA ?_
      simp only [pu', p0', c1', c0', i1', n0', n3', n1', n2', a2', a1', a0', n4', Nat.reduceAdd, z0', n5', sa0, sa1, sa2, sa3, sa4, sa5, sa6, sa7, sa8, sa9, sa10, sa11]
      refine salloc ?_
      simp only [pu', p0', c1', c0', i1', n0', n3', n1', n2', a2', a1', a0', n4', Nat.reduceAdd, z0', n5', sa0, sa1, sa2, sa3, sa4, sa5, sa6, sa7, sa8, sa9, sa10, sa11]
      refine sassign ?_
      simp only [pu', p0', c1', c0', i1', z0', b8_nat]
      refine sassign ?_
      simp only [pu', p0', c1', c0', i1', z0', b8_nat]
      refine sassign ?_
      simp only [pu', p0', c1', c0', i1', z0', b8_nat]
      with_reducible refine s_end ?_
      with_reducible refine s_then ?_
      with_reducible refine s_seq ?_
      with_reducible refine s_reg ?_
      refine sloadW ?_
      simp only [pu', p0', c1', c0', i1', z0', b8_nat]
      refine smove ?_
      simp only [pu', p0', c1', c0', i1', z0', b8_nat]
      refine sM (hx := rfl) (rcheck_any _ _ _ _ _ (hS.ext (ext_app _ _)) hlen) ?_
      simp only [pu', p0', c1', c0', i1', z0', b8_nat]
      refine sassign ?_
      simp only [pu', p0', c1', c0', i1', z0', b8_nat]
      with_reducible refine s_end ?_
      with_reducible refine s_then ?_
      with_reducible refine s_seq ?_
      with_reducible refine s_seq ?_
      with_reducible refine s_reg ?_
      refine smove ?_
      simp only [pu', p0', c1', c0', i1', z0', b8_nat]
      refine sNe (fun hb => ?_) (fun hb => ?_)
      replace hb := dT' hb
      simp only [pu', p0', c1', c0', i1', z0', b8_nat]
      with_reducible refine s_end ?_
      with_reducible refine s_then ?_
      refine sCT ?_
      with_reducible refine s_seq ?_
      with_reducible refine s_reg ?_
      refine sbuild ?_
      simp only [pu', p0', c1', c0', i1', z0', b8_nat]
      refine smove ?_
      simp only [pu', p0', c1', c0', i1', z0', b8_nat]
      refine sstoreF ?_
      simp only [pu', p0', c1', c0', i1', n0', n3', n1', n2', a2', a1', a0', n4', Nat.reduceAdd, z0', n5', sa0, sa1, sa2, sa3, sa4, sa5, sa6, sa7, sa8, sa9, sa10, sa11]
      refine sassign ?_
      simp only [pu', p0', c1', c0', i1', z0', b8_nat]
      refine sassign ?_
      simp only [pu', p0', c1', c0', i1', z0', b8_nat]
      refine sassign ?_
      simp only [pu', p0', c1', c0', i1', z0', b8_nat]
      with_reducible refine s_end ?_
      with_reducible refine s_then ?_
      with_reducible refine s_ret ?_
      with_reducible refine s_thenR ?_
      rotate_left 1
      replace hb := dF' hb
      exact absurd (by with_reducible assumption) hb
    all_goals try with_reducible refine w_n ?_
    all_goals refine w_4 rfl (by first | exact v_t (by rfl) | exact v_c1 (C1.p) (by rfl) (HA.p) (by rfl) | exact v_cF (CA.p) (by rfl) (HA.p) (by rfl)) (by first | exact v_t (by rfl) | exact v_c1 (C1.p) (by rfl) (HA.p) (by rfl) | exact v_cF (CA.p) (by rfl) (HA.p) (by rfl)) (by first | exact v_t (by rfl) | exact v_c1 (C1.p) (by rfl) (HA.p) (by rfl) | exact v_cF (CA.p) (by rfl) (HA.p) (by rfl)) (by first | exact v_t (by rfl) | exact v_c1 (C1.p) (by rfl) (HA.p) (by rfl) | exact v_cF (CA.p) (by rfl) (HA.p) (by rfl)) ?_
    exact ⟨[], nilS, ext_app _ _, rfl, .inl ⟨rfl, rfl⟩, fun i hi => (by cases hi), tight_nil, fun s' h2 hh => ⟨s', rfl, hh⟩⟩
  have hk := ck_ok hc
  have hfr := fr_rng l 0 (by omega)
  have hat1 : j < 0 → atF j l = fr l 0 := fun hj => by rw [atF, if_pos (by omega)]
  have hat2 : ¬ j < 0 → atF j l = j := fun hj => by rw [atF, if_neg (by omega)]
  have hrg := fun n hn => jobs_rng hk.1 n hn
  have hrgA := fun n hn => jobs_rngA hk.1 n hn
  have own_pk : ∀ {X : Hp} {c : Nat} {u : Bool} {l' : List Tk}, (u = true → c = 0) → (u = false → c = l.length) → l'.length = l.length → X[h.length + 3]? = some (.cells (fl l') 68 true) → Own encT 4 68 X (.sl (h.length + 3) 0 l.length c u) l' := by
    intro X c u l' hc1 hc2 hl hX
    refine .inr ⟨h.length + 3, 0, c, u, _, by rw [hl], hX, by rw [flat_len encT_ok]; omega, ?_, fun hu => ⟨rfl, hc1 hu⟩, fun hu => ?_⟩
    · rw [List.drop_zero, List.take_of_length_le (by rw [flat_len encT_ok]; omega)]
    · rw [flat_len encT_ok, hc2 hu]; omega
  have tg : ∀ {c : Nat} {u : Bool}, (u = false → c = l.length) → Tight (.sl (h.length + 3) 0 l.length c u) := by
    intro c u hc2
    cases u
    · rw [hc2 rfl]; exact tight_f
    · exact tight_u
  have hz : fr [] 0 = -1 := rfl
  have hup := fun b => show pickP j d l b = if atF j l < 0 then ⟨j, d, l, 0, 0⟩ else
    if b = true then ⟨-1, 0, l.set (atF j l).toNat (failT (l.getD (atF j l).toNat tk0)), 4, 0⟩ else
    if j = -1 then ⟨atF j l, 0, l.set (atF j l).toNat (beginT (l.getD (atF j l).toNat tk0)), 1, 0⟩ else
    if d + 1 = (l.getD (atF j l).toNat tk0).u then ⟨-1, 0, l.set (atF j l).toNat (overT (l.getD (atF j l).toNat tk0)), 3, 0⟩ else ⟨j, d + 1, l, 2, 0⟩ by rw [pickP, if_neg (by simpa using hc)]
  by_cases hl : l = []
  · subst hl
    have hj : j = -1 := by have := hk.2.2.2.1; simp at this; omega
    have hd := hk.2.2.2.2.1 hj
    subst hj hd
    have hp : ∀ b, pickP (-1) 0 [] b = ⟨-1, 0, [], 0, 0⟩ := fun b => by rw [hup, if_pos (by decide)]
    rw [hp]
    refine acalls_of_wk hm Try.func44 rfl ?_
    simp only [Try.ntmps44, List.length_cons, List.length_nil, Nat.reduceAdd, Nat.reduceSub, List.reduceReplicate, List.cons_append, List.nil_append]
    show wk _ _ none _ _ ⟨_, []⟩ _
    have el2 := mkEL encT_ok tk0 hS
    with_reducible refine s_seq ?_
    with_reducible refine s_reg ?_
    refine sboxA ?_
    simp only [pu', p0', c1', c0', i1', n0', n3', n1', n2', a2', a1', a0', n4', Nat.reduceAdd, z0', n5', sa0, sa1, sa2, sa3, sa4, sa5, sa6, sa7, sa8, sa9, sa10, sa11]
    refine salloc ?_
    simp only [pu', p0', c1', c0', i1', n0', n3', n1', n2', a2', a1', a0', n4', Nat.reduceAdd, z0', n5', sa0, sa1, sa2, sa3, sa4, sa5, sa6, sa7, sa8, sa9, sa10, sa11]
    refine sassign ?_
    simp only [pu', p0', c1', c0', i1', z0', b8_nat]
    refine sassign ?_
    simp only [pu', p0', c1', c0', i1', z0', b8_nat]
    refine sassign ?_
    simp only [pu', p0', c1', c0', i1', z0', b8_nat]
    with_reducible refine s_end ?_
    with_reducible refine s_then ?_
    with_reducible refine s_seq ?_
    with_reducible refine s_reg ?_
    refine sloadW ?_
    simp only [pu', p0', c1', c0', i1', z0', b8_nat]
    refine smove ?_
    simp only [pu', p0', c1', c0', i1', z0', b8_nat]
    refine sM (hx := rfl) (rcheck_any _ _ _ _ _ (hS.ext (ext_app _ _)) hlen) ?_
    simp only [pu', p0', c1', c0', i1', z0', b8_nat]
    refine sassign ?_
    simp only [pu', p0', c1', c0', i1', z0', b8_nat]
    with_reducible refine s_end ?_
    with_reducible refine s_then ?_
    with_reducible refine s_seq ?_
    with_reducible refine s_seq ?_
    with_reducible refine s_reg ?_
    refine smove ?_
    simp only [pu', p0', c1', c0', i1', z0', b8_nat]
    refine sNe (fun hb => ?_) (fun hb => ?_)
    replace hb := dT' hb
    (exfalso; omega)
    replace hb := dF' hb
    simp only [pu', p0', c1', c0', i1', z0', b8_nat]
    with_reducible refine s_end ?_
    with_reducible refine s_then ?_
    refine sCF ?_
    with_reducible refine s_skip ?_
    with_reducible refine s_then ?_
    with_reducible refine s_seq ?_
    with_reducible refine s_reg ?_
    refine sbsl ?_
    simp only [pu', p0', c1', c0', i1', n0', n3', n1', n2', a2', a1', a0', n4', Nat.reduceAdd, z0', n5', sa0, sa1, sa2, sa3, sa4, sa5, sa6, sa7, sa8, sa9, sa10, sa11]
    refine smove ?_
    simp only [pu', p0', c1', c0', i1', z0', b8_nat]
    refine s_gH (by rfl) (x_app (by exact e_any (by rfl)) (by exact e_any (by rfl)) (app_none encT_ok sl_24 el_68 (hS.ext (ext_app _ _)))) ?_
    simp only [Fr.put, List.set_cons_succ, List.set_cons_zero, Int.toNat_natCast, List.length_append, List.length_set, List.length_cons, List.length_nil, List.nil_append, List.cons_append, List.append_assoc, List.length_replicate, Nat.reduceAdd, Nat.zero_add, Nat.add_assoc, sa0, sa1, sa2, sa3, sa4, sa5, sa6, sa7, sa8, sa9, sa10, sa11]
    focus
      refine sassign ?_
      simp only [pu', p0', c1', c0', i1', z0', b8_nat]
      with_reducible refine s_end ?_
      with_reducible refine s_then ?_
      with_reducible refine s_seq ?_
      with_reducible refine s_reg ?_
      refine sfad ?_
      simp only [pu', p0', c1', c0', i1', z0', b8_nat]
      refine sload1 ?_
      simp only [pu', p0', c1', c0', i1', z0', b8_nat]
      refine sassign ?_
      simp only [pu', p0', c1', c0', i1', z0', b8_nat]
      with_reducible refine s_end ?_
      with_reducible refine s_then ?_
      with_reducible refine s_seq ?_
      with_reducible refine s_seq ?_
      with_reducible refine s_reg ?_
      refine smove ?_
      simp only [pu', p0', c1', c0', i1', z0', b8_nat]
      refine sEq (fun hb => ?_) (fun hb => ?_)
      replace hb := dT' hb
      simp only [pu', p0', c1', c0', i1', z0', b8_nat]
      with_reducible refine s_end ?_
      with_reducible refine s_then ?_
      refine sCT ?_
      with_reducible refine s_reg ?_
      refine smove ?_
      simp only [pu', p0', c1', c0', i1', z0', b8_nat]
      refine sM (hx := rfl) (rnext_any _ _ [] (hS.ext (ext_app _ _)) (by simp)) ?_
      simp only [pu', p0', c1', c0', i1', z0', b8_nat]
      refine sassign ?_
      simp only [pu', p0', c1', c0', i1', z0', b8_nat]
      with_reducible refine s_end ?_
      with_reducible refine s_then ?_
      with_reducible refine s_seq ?_
      with_reducible refine s_block ?_
      with_reducible refine s_seq ?_
      with_reducible refine s_reg ?_
      refine smove ?_
      simp only [pu', p0', c1', c0', i1', z0', b8_nat]
      refine sEq (fun hb => ?_) (fun hb => ?_)
      replace hb := dT' hb
      simp only [pu', p0', c1', c0', i1', z0', b8_nat]
      refine sassign ?_
      simp only [pu', p0', c1', c0', i1', z0', b8_nat]
      with_reducible refine s_end ?_
      with_reducible refine s_then ?_
      refine sCT ?_
      with_reducible refine s_seq ?_
      with_reducible refine s_reg ?_
      refine sloadW ?_
      simp only [pu', p0', c1', c0', i1', z0', b8_nat]
      refine smove ?_
      simp only [pu', p0', c1', c0', i1', z0', b8_nat]
      refine sstoreF ?_
      simp only [pu', p0', c1', c0', i1', n0', n3', n1', n2', a2', a1', a0', n4', Nat.reduceAdd, z0', n5', sa0, sa1, sa2, sa3, sa4, sa5, sa6, sa7, sa8, sa9, sa10, sa11]
      refine sassign ?_
      simp only [pu', p0', c1', c0', i1', z0', b8_nat]
      refine sassign ?_
      simp only [pu', p0', c1', c0', i1', z0', b8_nat]
      refine sassign ?_
      simp only [pu', p0', c1', c0', i1', z0', b8_nat]
      with_reducible refine s_end ?_
      with_reducible refine s_then ?_
      with_reducible refine s_ret ?_
      with_reducible refine s_blkR ?_
      with_reducible refine s_thenR ?_
      rotate_left 1
      replace hb := dF' hb
      exact absurd rfl hb
      replace hb := dF' hb
      exact absurd rfl hb
    all_goals try with_reducible refine w_n ?_
    all_goals refine w_4 rfl (by first | exact v_t (by rfl) | exact v_c1 (C1.p) (by rfl) (HA.p) (by rfl) | exact v_cF (CA.p) (by rfl) (HA.p) (by rfl)) (by first | exact v_t (by rfl) | exact v_c1 (C1.p) (by rfl) (HA.p) (by rfl) | exact v_cF (CA.p) (by rfl) (HA.p) (by rfl)) (by first | exact v_t (by rfl) | exact v_c1 (C1.p) (by rfl) (HA.p) (by rfl) | exact v_cF (CA.p) (by rfl) (HA.p) (by rfl)) (by first | exact v_t (by rfl) | exact v_c1 (C1.p) (by rfl) (HA.p) (by rfl) | exact v_cF (CA.p) (by rfl) (HA.p) (by rfl)) ?_
    exact ⟨[], _, ext_app _ _, rfl, .inr ⟨h.length + 2, 0, 0, false, [], rfl, (by first | with_reducible exact ga0 | with_reducible exact ga1 | with_reducible exact ga2 | with_reducible exact ga3 | with_reducible exact ga4 | with_reducible exact ga5 | with_reducible exact ga6 | with_reducible exact ga7 | with_reducible assumption | rfl), by simp, by simp, by simp, by simp⟩, fun i hi => (by injection hi with hi; omega), tight_f, fun s' h2 hh => ⟨s', rfl, hh⟩⟩
  have hc1 : true = true → 0 = 0 := fun _ => rfl
  have hc2 : true = false → 0 = l.length := fun h => by cases h
  by_cases hj : j = -1
  · by_cases hf : fr l 0 < 0
    · have hf1 : fr l 0 = -1 := by omega
      cases b
      all_goals
        refine acalls_of_wk hm Try.func44 rfl ?_
        simp only [Try.ntmps44, List.length_cons, List.length_nil, Nat.reduceAdd, Nat.reduceSub, List.reduceReplicate, List.cons_append, List.nil_append]
        show wk _ _ none _ _ ⟨_, []⟩ _
        have el3 := mkEL encT_ok tk0 hS
        with_reducible refine s_seq ?_
        with_reducible refine s_reg ?_
        refine sboxA ?_
        simp only [pu', p0', c1', c0', i1', n0', n3', n1', n2', a2', a1', a0', n4', Nat.reduceAdd, z0', n5', sa0, sa1, sa2, sa3, sa4, sa5, sa6, sa7, sa8, sa9, sa10, sa11]
        refine salloc ?_
        simp only [pu', p0', c1', c0', i1', n0', n3', n1', n2', a2', a1', a0', n4', Nat.reduceAdd, z0', n5', sa0, sa1, sa2, sa3, sa4, sa5, sa6, sa7, sa8, sa9, sa10, sa11]
        refine sassign ?_
        simp only [pu', p0', c1', c0', i1', z0', b8_nat]
        refine sassign ?_
        simp only [pu', p0', c1', c0', i1', z0', b8_nat]
        refine sassign ?_
        simp only [pu', p0', c1', c0', i1', z0', b8_nat]
        with_reducible refine s_end ?_
        with_reducible refine s_then ?_
        with_reducible refine s_seq ?_
        with_reducible refine s_reg ?_
        refine sloadW ?_
        simp only [pu', p0', c1', c0', i1', z0', b8_nat]
        refine smove ?_
        simp only [pu', p0', c1', c0', i1', z0', b8_nat]
        refine sM (hx := rfl) (rcheck_any _ _ _ _ _ (hS.ext (ext_app _ _)) hlen) ?_
        simp only [pu', p0', c1', c0', i1', z0', b8_nat]
        refine sassign ?_
        simp only [pu', p0', c1', c0', i1', z0', b8_nat]
        with_reducible refine s_end ?_
        with_reducible refine s_then ?_
        with_reducible refine s_seq ?_
        with_reducible refine s_seq ?_
        with_reducible refine s_reg ?_
        refine smove ?_
        simp only [pu', p0', c1', c0', i1', z0', b8_nat]
        refine sNe (fun hb => ?_) (fun hb => ?_)
        replace hb := dT' hb
        (exfalso; omega)
        replace hb := dF' hb
        simp only [pu', p0', c1', c0', i1', z0', b8_nat]
        with_reducible refine s_end ?_
        with_reducible refine s_then ?_
        refine sCF ?_
        with_reducible refine s_skip ?_
        with_reducible refine s_then ?_
        with_reducible refine s_seq ?_
        with_reducible refine s_reg ?_
        refine sbsl ?_
        simp only [pu', p0', c1', c0', i1', n0', n3', n1', n2', a2', a1', a0', n4', Nat.reduceAdd, z0', n5', sa0, sa1, sa2, sa3, sa4, sa5, sa6, sa7, sa8, sa9, sa10, sa11]
        refine smove ?_
        simp only [pu', p0', c1', c0', i1', z0', b8_nat]
        refine s_gH (by rfl) (x_app (by exact e_any (by rfl)) (by exact e_any (by rfl)) (app_fresh encT_ok sl_24 el_68 (by first | with_reducible exact ga0 | with_reducible exact ga1 | with_reducible exact ga2 | with_reducible exact ga3 | with_reducible exact ga4 | with_reducible exact ga5 | with_reducible exact ga6 | with_reducible exact ga7 | with_reducible assumption | rfl) (hS.ext (ext_app _ _)) hlen hl)) ?_
        simp only [Fr.put, List.set_cons_succ, List.set_cons_zero, Int.toNat_natCast, List.length_append, List.length_set, List.length_cons, List.length_nil, List.nil_append, List.cons_append, List.append_assoc, List.length_replicate, Nat.reduceAdd, Nat.zero_add, Nat.add_assoc, sa0, sa1, sa2, sa3, sa4, sa5, sa6, sa7, sa8, sa9, sa10, sa11]
        focus
          refine sassign ?_
          simp only [pu', p0', c1', c0', i1', z0', b8_nat]
          with_reducible refine s_end ?_
          with_reducible refine s_then ?_
          with_reducible refine s_seq ?_
          with_reducible refine s_reg ?_
          refine sfad ?_
          simp only [pu', p0', c1', c0', i1', z0', b8_nat]
          refine sload1 ?_
          simp only [pu', p0', c1', c0', i1', z0', b8_nat]
          refine sassign ?_
          simp only [pu', p0', c1', c0', i1', z0', b8_nat]
          with_reducible refine s_end ?_
          with_reducible refine s_then ?_
          with_reducible refine s_seq ?_
          with_reducible refine s_seq ?_
          with_reducible refine s_reg ?_
          refine smove ?_
          simp only [pu', p0', c1', c0', i1', z0', b8_nat]
          refine sEq (fun hb => ?_) (fun hb => ?_)
          replace hb := dT' hb
          simp only [pu', p0', c1', c0', i1', z0', b8_nat]
          with_reducible refine s_end ?_
          with_reducible refine s_then ?_
          refine sCT ?_
          with_reducible refine s_reg ?_
          refine smove ?_
          simp only [pu', p0', c1', c0', i1', z0', b8_nat]
          refine sM (hx := rfl) (rnext_any _ _ _ (hS.ext (ext_app _ _)) hlen) ?_
          simp only [pu', p0', c1', c0', i1', z0', b8_nat]
          refine sassign ?_
          simp only [pu', p0', c1', c0', i1', z0', b8_nat]
          with_reducible refine s_end ?_
          with_reducible refine s_then ?_
          with_reducible refine s_seq ?_
          with_reducible refine s_block ?_
          with_reducible refine s_seq ?_
          with_reducible refine s_reg ?_
          refine smove ?_
          simp only [pu', p0', c1', c0', i1', z0', b8_nat]
          refine sEq (fun hb => ?_) (fun hb => ?_)
          replace hb := dT' hb
          simp only [pu', p0', c1', c0', i1', z0', b8_nat]
          refine sassign ?_
          simp only [pu', p0', c1', c0', i1', z0', b8_nat]
          with_reducible refine s_end ?_
          with_reducible refine s_then ?_
          refine sCT ?_
          with_reducible refine s_seq ?_
          with_reducible refine s_reg ?_
          refine sloadW ?_
          simp only [pu', p0', c1', c0', i1', z0', b8_nat]
          refine smove ?_
          simp only [pu', p0', c1', c0', i1', z0', b8_nat]
          refine sstoreF ?_
          simp only [pu', p0', c1', c0', i1', n0', n3', n1', n2', a2', a1', a0', n4', Nat.reduceAdd, z0', n5', sa0, sa1, sa2, sa3, sa4, sa5, sa6, sa7, sa8, sa9, sa10, sa11]
          refine sassign ?_
          simp only [pu', p0', c1', c0', i1', z0', b8_nat]
          refine sassign ?_
          simp only [pu', p0', c1', c0', i1', z0', b8_nat]
          refine sassign ?_
          simp only [pu', p0', c1', c0', i1', z0', b8_nat]
          with_reducible refine s_end ?_
          with_reducible refine s_then ?_
          with_reducible refine s_ret ?_
          with_reducible refine s_blkR ?_
          with_reducible refine s_thenR ?_
          rotate_left 1
          replace hb := dF' hb
          exact absurd (by with_reducible assumption) hb
          replace hb := dF' hb
          exact absurd (by with_reducible assumption) hb
        all_goals
          first
            | (have hp : pickP j d l true = ⟨j, d, l, 0, 0⟩ := by rw [hup true, hat1 (by omega), if_pos (by omega)]
               rw [hp]
               ((try with_reducible refine w_n ?_); refine w_4 rfl (by first | exact v_t (by rfl) | exact v_c1 (C1.p) (by rfl) (HA.p) (by rfl) | exact v_cF (CA.p) (by rfl) (HA.p) (by rfl)) (by first | exact v_t (by rfl) | exact v_c1 (C1.p) (by rfl) (HA.p) (by rfl) | exact v_cF (CA.p) (by rfl) (HA.p) (by rfl)) (by first | exact v_t (by rfl) | exact v_c1 (C1.p) (by rfl) (HA.p) (by rfl) | exact v_cF (CA.p) (by rfl) (HA.p) (by rfl)) (by first | exact v_t (by rfl) | exact v_c1 (C1.p) (by rfl) (HA.p) (by rfl) | exact v_cF (CA.p) (by rfl) (HA.p) (by rfl)) ?_)
               exact ⟨l, _, ext_app _ _, rfl, own_pk hc1 hc2 rfl (by first | with_reducible exact ga0 | with_reducible exact ga1 | with_reducible exact ga2 | with_reducible exact ga3 | with_reducible exact ga4 | with_reducible exact ga5 | with_reducible exact ga6 | with_reducible exact ga7 | with_reducible assumption | rfl), fun i hi => (by injection hi with hi; omega), tg hc2, fun s' h2 hh => ⟨s', rfl, hh⟩⟩)
            | (have hp : pickP j d l false = ⟨j, d, l, 0, 0⟩ := by rw [hup false, hat1 (by omega), if_pos (by omega)]
               rw [hp]
               ((try with_reducible refine w_n ?_); refine w_4 rfl (by first | exact v_t (by rfl) | exact v_c1 (C1.p) (by rfl) (HA.p) (by rfl) | exact v_cF (CA.p) (by rfl) (HA.p) (by rfl)) (by first | exact v_t (by rfl) | exact v_c1 (C1.p) (by rfl) (HA.p) (by rfl) | exact v_cF (CA.p) (by rfl) (HA.p) (by rfl)) (by first | exact v_t (by rfl) | exact v_c1 (C1.p) (by rfl) (HA.p) (by rfl) | exact v_cF (CA.p) (by rfl) (HA.p) (by rfl)) (by first | exact v_t (by rfl) | exact v_c1 (C1.p) (by rfl) (HA.p) (by rfl) | exact v_cF (CA.p) (by rfl) (HA.p) (by rfl)) ?_)
               exact ⟨l, _, ext_app _ _, rfl, own_pk hc1 hc2 rfl (by first | with_reducible exact ga0 | with_reducible exact ga1 | with_reducible exact ga2 | with_reducible exact ga3 | with_reducible exact ga4 | with_reducible exact ga5 | with_reducible exact ga6 | with_reducible exact ga7 | with_reducible assumption | rfl), fun i hi => (by injection hi with hi; omega), tg hc2, fun s' h2 hh => ⟨s', rfl, hh⟩⟩)
            | (have hp : pickP j d l true = ⟨-1, 0, l.set (fr l 0).toNat (failT (l.getD (fr l 0).toNat tk0)), 4, 0⟩ := by rw [hup true, hat1 (by omega), if_neg (by omega), if_pos rfl]
               rw [hp]
               ((try with_reducible refine w_n ?_); refine w_4 rfl (by first | exact v_t (by rfl) | exact v_c1 (C1.p) (by rfl) (HA.p) (by rfl) | exact v_cF (CA.p) (by rfl) (HA.p) (by rfl)) (by first | exact v_t (by rfl) | exact v_c1 (C1.p) (by rfl) (HA.p) (by rfl) | exact v_cF (CA.p) (by rfl) (HA.p) (by rfl)) (by first | exact v_t (by rfl) | exact v_c1 (C1.p) (by rfl) (HA.p) (by rfl) | exact v_cF (CA.p) (by rfl) (HA.p) (by rfl)) (by first | exact v_t (by rfl) | exact v_c1 (C1.p) (by rfl) (HA.p) (by rfl) | exact v_cF (CA.p) (by rfl) (HA.p) (by rfl)) ?_)
               exact ⟨_, _, ext_app _ _, rfl, own_pk hc1 hc2 (by rw [List.length_set]) (ga3.trans (congrArg (fun c => some (AObj.cells c 68 true)) (rfl))), fun i hi => (by injection hi with hi; omega), tg hc2, fun s' h2 hh => ⟨s', rfl, hh⟩⟩)
            | (have hp : pickP j d l false = ⟨fr l 0, 0, l.set (fr l 0).toNat (beginT (l.getD (fr l 0).toNat tk0)), 1, 0⟩ := by rw [hup false, hat1 (by omega), if_neg (by omega), if_neg (by simp), if_pos (by omega)]
               rw [hp]
               ((try with_reducible refine w_n ?_); refine w_4 rfl (by first | exact v_t (by rfl) | exact v_c1 (C1.p) (by rfl) (HA.p) (by rfl) | exact v_cF (CA.p) (by rfl) (HA.p) (by rfl)) (by first | exact v_t (by rfl) | exact v_c1 (C1.p) (by rfl) (HA.p) (by rfl) | exact v_cF (CA.p) (by rfl) (HA.p) (by rfl)) (by first | exact v_t (by rfl) | exact v_c1 (C1.p) (by rfl) (HA.p) (by rfl) | exact v_cF (CA.p) (by rfl) (HA.p) (by rfl)) (by first | exact v_t (by rfl) | exact v_c1 (C1.p) (by rfl) (HA.p) (by rfl) | exact v_cF (CA.p) (by rfl) (HA.p) (by rfl)) ?_)
               exact ⟨_, _, ext_app _ _, rfl, own_pk hc1 hc2 (by rw [List.length_set]) (ga3.trans (congrArg (fun c => some (AObj.cells c 68 true)) (rfl))), fun i hi => (by injection hi with hi; omega), tg hc2, fun s' h2 hh => ⟨s', rfl, hh⟩⟩)
    · have hn : (fr l 0).toNat < l.length := by omega
      have hA := hrgA _ hn
      cases b
      all_goals
        refine acalls_of_wk hm Try.func44 rfl ?_
        simp only [Try.ntmps44, List.length_cons, List.length_nil, Nat.reduceAdd, Nat.reduceSub, List.reduceReplicate, List.cons_append, List.nil_append]
        show wk _ _ none _ _ ⟨_, []⟩ _
        have el4 := mkEL encT_ok tk0 hS
        with_reducible refine s_seq ?_
        with_reducible refine s_reg ?_
        refine sboxA ?_
        simp only [pu', p0', c1', c0', i1', n0', n3', n1', n2', a2', a1', a0', n4', Nat.reduceAdd, z0', n5', sa0, sa1, sa2, sa3, sa4, sa5, sa6, sa7, sa8, sa9, sa10, sa11]
        refine salloc ?_
        simp only [pu', p0', c1', c0', i1', n0', n3', n1', n2', a2', a1', a0', n4', Nat.reduceAdd, z0', n5', sa0, sa1, sa2, sa3, sa4, sa5, sa6, sa7, sa8, sa9, sa10, sa11]
        refine sassign ?_
        simp only [pu', p0', c1', c0', i1', z0', b8_nat]
        refine sassign ?_
        simp only [pu', p0', c1', c0', i1', z0', b8_nat]
        refine sassign ?_
        simp only [pu', p0', c1', c0', i1', z0', b8_nat]
        with_reducible refine s_end ?_
        with_reducible refine s_then ?_
        with_reducible refine s_seq ?_
        with_reducible refine s_reg ?_
        refine sloadW ?_
        simp only [pu', p0', c1', c0', i1', z0', b8_nat]
        refine smove ?_
        simp only [pu', p0', c1', c0', i1', z0', b8_nat]
        refine sM (hx := rfl) (rcheck_any _ _ _ _ _ (hS.ext (ext_app _ _)) hlen) ?_
        simp only [pu', p0', c1', c0', i1', z0', b8_nat]
        refine sassign ?_
        simp only [pu', p0', c1', c0', i1', z0', b8_nat]
        with_reducible refine s_end ?_
        with_reducible refine s_then ?_
        with_reducible refine s_seq ?_
        with_reducible refine s_seq ?_
        with_reducible refine s_reg ?_
        refine smove ?_
        simp only [pu', p0', c1', c0', i1', z0', b8_nat]
        refine sNe (fun hb => ?_) (fun hb => ?_)
        replace hb := dT' hb
        (exfalso; omega)
        replace hb := dF' hb
        simp only [pu', p0', c1', c0', i1', z0', b8_nat]
        with_reducible refine s_end ?_
        with_reducible refine s_then ?_
        refine sCF ?_
        with_reducible refine s_skip ?_
        with_reducible refine s_then ?_
        with_reducible refine s_seq ?_
        with_reducible refine s_reg ?_
        refine sbsl ?_
        simp only [pu', p0', c1', c0', i1', n0', n3', n1', n2', a2', a1', a0', n4', Nat.reduceAdd, z0', n5', sa0, sa1, sa2, sa3, sa4, sa5, sa6, sa7, sa8, sa9, sa10, sa11]
        refine smove ?_
        simp only [pu', p0', c1', c0', i1', z0', b8_nat]
        refine s_gH (by rfl) (x_app (by exact e_any (by rfl)) (by exact e_any (by rfl)) (app_fresh encT_ok sl_24 el_68 (by first | with_reducible exact ga0 | with_reducible exact ga1 | with_reducible exact ga2 | with_reducible exact ga3 | with_reducible exact ga4 | with_reducible exact ga5 | with_reducible exact ga6 | with_reducible exact ga7 | with_reducible assumption | rfl) (hS.ext (ext_app _ _)) hlen hl)) ?_
        simp only [Fr.put, List.set_cons_succ, List.set_cons_zero, Int.toNat_natCast, List.length_append, List.length_set, List.length_cons, List.length_nil, List.nil_append, List.cons_append, List.append_assoc, List.length_replicate, Nat.reduceAdd, Nat.zero_add, Nat.add_assoc, sa0, sa1, sa2, sa3, sa4, sa5, sa6, sa7, sa8, sa9, sa10, sa11]
        focus
          first
            | refine sassign ?_
              simp only [pu', p0', c1', c0', i1', z0', b8_nat]
              with_reducible refine s_end ?_
              with_reducible refine s_then ?_
              with_reducible refine s_seq ?_
              with_reducible refine s_reg ?_
              refine sfad ?_
              simp only [pu', p0', c1', c0', i1', z0', b8_nat]
              refine sload1 ?_
              simp only [pu', p0', c1', c0', i1', z0', b8_nat]
              refine sassign ?_
              simp only [pu', p0', c1', c0', i1', z0', b8_nat]
              with_reducible refine s_end ?_
              with_reducible refine s_then ?_
              with_reducible refine s_seq ?_
              with_reducible refine s_seq ?_
              with_reducible refine s_reg ?_
              refine smove ?_
              simp only [pu', p0', c1', c0', i1', z0', b8_nat]
              refine sEq (fun hb => ?_) (fun hb => ?_)
              replace hb := dT' hb
              simp only [pu', p0', c1', c0', i1', z0', b8_nat]
              with_reducible refine s_end ?_
              with_reducible refine s_then ?_
              refine sCT ?_
              with_reducible refine s_reg ?_
              refine smove ?_
              simp only [pu', p0', c1', c0', i1', z0', b8_nat]
              refine sM (hx := rfl) (rnext_any _ _ _ (hS.ext (ext_app _ _)) hlen) ?_
              simp only [pu', p0', c1', c0', i1', z0', b8_nat]
              refine sassign ?_
              simp only [pu', p0', c1', c0', i1', z0', b8_nat]
              with_reducible refine s_end ?_
              with_reducible refine s_then ?_
              with_reducible refine s_seq ?_
              with_reducible refine s_block ?_
              with_reducible refine s_seq ?_
              with_reducible refine s_reg ?_
              refine smove ?_
              simp only [pu', p0', c1', c0', i1', z0', b8_nat]
              refine sEq (fun hb => ?_) (fun hb => ?_)
              replace hb := dT' hb
              (exfalso; omega)
              replace hb := dF' hb
              simp only [pu', p0', c1', c0', i1', z0', b8_nat]
              refine sassign ?_
              simp only [pu', p0', c1', c0', i1', z0', b8_nat]
              with_reducible refine s_end ?_
              with_reducible refine s_then ?_
              refine sCF ?_
              with_reducible refine s_seq ?_
              with_reducible refine s_reg ?_
              refine smove ?_
              simp only [pu', p0', c1', c0', i1', z0', b8_nat]
              refine sassign ?_
              simp only [pu', p0', c1', c0', i1', z0', b8_nat]
              with_reducible refine s_end ?_
              with_reducible refine s_then ?_
              refine sCF ?_
              with_reducible refine s_seq ?_
              with_reducible refine s_reg ?_
              refine sfad ?_
              simp only [pu', p0', c1', c0', i1', z0', b8_nat]
              refine sload1 ?_
              simp only [pu', p0', c1', c0', i1', z0', b8_nat]
              refine sEq (fun hb => ?_) (fun hb => ?_)
              replace hb := dT' hb
              simp only [pu', p0', c1', c0', i1', z0', b8_nat]
              refine sassign ?_
              simp only [pu', p0', c1', c0', i1', z0', b8_nat]
              with_reducible refine s_end ?_
              with_reducible refine s_then ?_
              refine sCT ?_
              with_reducible refine s_seq ?_
              with_reducible refine s_reg ?_
              refine smove ?_
              simp only [pu', p0', c1', c0', i1', z0', b8_nat]
              refine smove ?_
              simp only [pu', p0', c1', c0', i1', z0', b8_nat]
              refine sidxS ?_
              simp only [pu', p0', c1', c0', i1', z0', b8_nat]
              refine sfad ?_
              simp only [pu', p0', c1', c0', i1', z0', b8_nat]
              ((with_reducible refine is_s (.store _ _ _) ?_); refine s_gH (by rfl) (x_store1 (by first | exact s1_3 | exact s1_4) (by exact e_any (by rfl)) (by exact e_any (by rfl)) (by rfl) (by first | with_reducible exact ga0 | with_reducible exact ga1 | with_reducible exact ga2 | with_reducible exact ga3 | with_reducible exact ga4 | with_reducible exact ga5 | with_reducible exact ga6 | with_reducible exact ga7 | with_reducible assumption | rfl) (by (try simp only [List.length_set]); exact gT hn (by omega))) ?_; simp only [Fr.put, List.set_cons_succ, List.set_cons_zero, Int.toNat_natCast, List.length_append, List.length_set, List.length_cons, List.length_nil, List.nil_append, List.cons_append, List.append_assoc, List.length_replicate, Nat.reduceAdd, Nat.zero_add, Nat.add_assoc, sa0, sa1, sa2, sa3, sa4, sa5, sa6, sa7, sa8, sa9, sa10, sa11])
              with_reducible refine s_end ?_
              with_reducible refine s_then ?_
              with_reducible refine s_seq ?_
              with_reducible refine s_reg ?_
              refine smove ?_
              simp only [pu', p0', c1', c0', i1', z0', b8_nat]
              refine sbuild ?_
              simp only [pu', p0', c1', c0', i1', z0', b8_nat]
              refine smove ?_
              simp only [pu', p0', c1', c0', i1', z0', b8_nat]
              refine sstoreF ?_
              simp only [pu', p0', c1', c0', i1', n0', n3', n1', n2', a2', a1', a0', n4', Nat.reduceAdd, z0', n5', sa0, sa1, sa2, sa3, sa4, sa5, sa6, sa7, sa8, sa9, sa10, sa11]
              refine sassign ?_
              simp only [pu', p0', c1', c0', i1', z0', b8_nat]
              refine sassign ?_
              simp only [pu', p0', c1', c0', i1', z0', b8_nat]
              refine sassign ?_
              simp only [pu', p0', c1', c0', i1', z0', b8_nat]
              with_reducible refine s_end ?_
              with_reducible refine s_then ?_
              with_reducible refine s_ret ?_
              with_reducible refine s_blkR ?_
              with_reducible refine s_thenR ?_
              rotate_left 1
              replace hb := dF' hb
              exact absurd (by with_reducible assumption) hb
              replace hb := dF' hb
              exact absurd (by with_reducible assumption) hb
            | refine sassign ?_
              simp only [pu', p0', c1', c0', i1', z0', b8_nat]
              with_reducible refine s_end ?_
              with_reducible refine s_then ?_
              with_reducible refine s_seq ?_
              with_reducible refine s_reg ?_
              refine sfad ?_
              simp only [pu', p0', c1', c0', i1', z0', b8_nat]
              refine sload1 ?_
              simp only [pu', p0', c1', c0', i1', z0', b8_nat]
              refine sassign ?_
              simp only [pu', p0', c1', c0', i1', z0', b8_nat]
              with_reducible refine s_end ?_
              with_reducible refine s_then ?_
              with_reducible refine s_seq ?_
              with_reducible refine s_seq ?_
              with_reducible refine s_reg ?_
              refine smove ?_
              simp only [pu', p0', c1', c0', i1', z0', b8_nat]
              refine sEq (fun hb => ?_) (fun hb => ?_)
              replace hb := dT' hb
              simp only [pu', p0', c1', c0', i1', z0', b8_nat]
              with_reducible refine s_end ?_
              with_reducible refine s_then ?_
              refine sCT ?_
              with_reducible refine s_reg ?_
              refine smove ?_
              simp only [pu', p0', c1', c0', i1', z0', b8_nat]
              refine sM (hx := rfl) (rnext_any _ _ _ (hS.ext (ext_app _ _)) hlen) ?_
              simp only [pu', p0', c1', c0', i1', z0', b8_nat]
              refine sassign ?_
              simp only [pu', p0', c1', c0', i1', z0', b8_nat]
              with_reducible refine s_end ?_
              with_reducible refine s_then ?_
              with_reducible refine s_seq ?_
              with_reducible refine s_block ?_
              with_reducible refine s_seq ?_
              with_reducible refine s_reg ?_
              refine smove ?_
              simp only [pu', p0', c1', c0', i1', z0', b8_nat]
              refine sEq (fun hb => ?_) (fun hb => ?_)
              replace hb := dT' hb
              (exfalso; omega)
              replace hb := dF' hb
              simp only [pu', p0', c1', c0', i1', z0', b8_nat]
              refine sassign ?_
              simp only [pu', p0', c1', c0', i1', z0', b8_nat]
              with_reducible refine s_end ?_
              with_reducible refine s_then ?_
              refine sCF ?_
              with_reducible refine s_seq ?_
              with_reducible refine s_reg ?_
              refine smove ?_
              simp only [pu', p0', c1', c0', i1', z0', b8_nat]
              refine sassign ?_
              simp only [pu', p0', c1', c0', i1', z0', b8_nat]
              with_reducible refine s_end ?_
              with_reducible refine s_then ?_
              refine sCT ?_
              with_reducible refine s_seq ?_
              with_reducible refine s_reg ?_
              refine smove ?_
              simp only [pu', p0', c1', c0', i1', z0', b8_nat]
              refine smove ?_
              simp only [pu', p0', c1', c0', i1', z0', b8_nat]
              refine sidxS ?_
              simp only [pu', p0', c1', c0', i1', z0', b8_nat]
              refine sfad ?_
              simp only [pu', p0', c1', c0', i1', z0', b8_nat]
              ((with_reducible refine is_s (.store _ _ _) ?_); refine s_gH (by rfl) (x_store1 (by first | exact s1_3 | exact s1_4) (by exact e_any (by rfl)) (by exact e_any (by rfl)) (by rfl) (by first | with_reducible exact ga0 | with_reducible exact ga1 | with_reducible exact ga2 | with_reducible exact ga3 | with_reducible exact ga4 | with_reducible exact ga5 | with_reducible exact ga6 | with_reducible exact ga7 | with_reducible assumption | rfl) (by (try simp only [List.length_set]); exact gT hn (by omega))) ?_; simp only [Fr.put, List.set_cons_succ, List.set_cons_zero, Int.toNat_natCast, List.length_append, List.length_set, List.length_cons, List.length_nil, List.nil_append, List.cons_append, List.append_assoc, List.length_replicate, Nat.reduceAdd, Nat.zero_add, Nat.add_assoc, sa0, sa1, sa2, sa3, sa4, sa5, sa6, sa7, sa8, sa9, sa10, sa11])
              with_reducible refine s_end ?_
              with_reducible refine s_then ?_
              with_reducible refine s_seq ?_
              with_reducible refine s_reg ?_
              refine smove ?_
              simp only [pu', p0', c1', c0', i1', z0', b8_nat]
              refine smove ?_
              simp only [pu', p0', c1', c0', i1', z0', b8_nat]
              refine smove ?_
              simp only [pu', p0', c1', c0', i1', z0', b8_nat]
              refine smove ?_
              simp only [pu', p0', c1', c0', i1', z0', b8_nat]
              refine sidxS ?_
              simp only [pu', p0', c1', c0', i1', z0', b8_nat]
              refine sfad ?_
              simp only [pu', p0', c1', c0', i1', z0', b8_nat]
              ((with_reducible refine is_s (.load _ _) ?_); refine s_gL (by rfl) (x_load1 (by first | exact s1_3 | exact s1_4) (by exact e_any (by rfl)) (by first | with_reducible exact ga0 | with_reducible exact ga1 | with_reducible exact ga2 | with_reducible exact ga3 | with_reducible exact ga4 | with_reducible exact ga5 | with_reducible exact ga6 | with_reducible exact ga7 | with_reducible assumption | rfl) ((List.getElem?_set_ne (by omega)).trans (fT hn (by rfl)))) ?_; simp only [Fr.put, List.set_cons_succ, List.set_cons_zero, Int.toNat_natCast, Nat.zero_add])
              refine sadd ?_
              simp only [pu', p0', c1', c0', i1', z0', b8_nat]
              refine smin ?_
              simp only [pu', p0', c1', c0', i1', z0', b8_nat]
              refine sidxS ?_
              simp only [pu', p0', c1', c0', i1', z0', b8_nat]
              refine sfad ?_
              simp only [pu', p0', c1', c0', i1', z0', b8_nat]
              ((with_reducible refine is_s (.store _ _ _) ?_); refine s_gH (by rfl) (x_store1 (by first | exact s1_3 | exact s1_4) (by exact e_any (by rfl)) (by exact e_any (by rfl)) (by rfl) (by first | with_reducible exact ga0 | with_reducible exact ga1 | with_reducible exact ga2 | with_reducible exact ga3 | with_reducible exact ga4 | with_reducible exact ga5 | with_reducible exact ga6 | with_reducible exact ga7 | with_reducible assumption | rfl) (by (try simp only [List.length_set]); exact gT hn (by omega))) ?_; simp only [Fr.put, List.set_cons_succ, List.set_cons_zero, Int.toNat_natCast, List.length_append, List.length_set, List.length_cons, List.length_nil, List.nil_append, List.cons_append, List.append_assoc, List.length_replicate, Nat.reduceAdd, Nat.zero_add, Nat.add_assoc, sa0, sa1, sa2, sa3, sa4, sa5, sa6, sa7, sa8, sa9, sa10, sa11])
              with_reducible refine s_end ?_
              with_reducible refine s_then ?_
              with_reducible refine s_seq ?_
              with_reducible refine s_reg ?_
              refine sK (hx := rfl) (ridle_any) ?_
              simp only [pu', p0', c1', c0', i1', z0', b8_nat]
              refine smove ?_
              simp only [pu', p0', c1', c0', i1', z0', b8_nat]
              refine sstoreF ?_
              simp only [pu', p0', c1', c0', i1', n0', n3', n1', n2', a2', a1', a0', n4', Nat.reduceAdd, z0', n5', sa0, sa1, sa2, sa3, sa4, sa5, sa6, sa7, sa8, sa9, sa10, sa11]
              refine sassign ?_
              simp only [pu', p0', c1', c0', i1', z0', b8_nat]
              refine sassign ?_
              simp only [pu', p0', c1', c0', i1', z0', b8_nat]
              refine sassign ?_
              simp only [pu', p0', c1', c0', i1', z0', b8_nat]
              with_reducible refine s_end ?_
              with_reducible refine s_then ?_
              with_reducible refine s_ret ?_
              with_reducible refine s_blkR ?_
              with_reducible refine s_thenR ?_
              rotate_left 1
              replace hb := dF' hb
              exact absurd (by with_reducible assumption) hb
        all_goals
          first
            | (have hp : pickP j d l true = ⟨j, d, l, 0, 0⟩ := by rw [hup true, hat1 (by omega), if_pos (by omega)]
               rw [hp]
               ((try with_reducible refine w_n ?_); refine w_4 rfl (by first | exact v_t (by rfl) | exact v_c1 (C1.p) (by rfl) (HA.p) (by rfl) | exact v_cF (CA.p) (by rfl) (HA.p) (by rfl)) (by first | exact v_t (by rfl) | exact v_c1 (C1.p) (by rfl) (HA.p) (by rfl) | exact v_cF (CA.p) (by rfl) (HA.p) (by rfl)) (by first | exact v_t (by rfl) | exact v_c1 (C1.p) (by rfl) (HA.p) (by rfl) | exact v_cF (CA.p) (by rfl) (HA.p) (by rfl)) (by first | exact v_t (by rfl) | exact v_c1 (C1.p) (by rfl) (HA.p) (by rfl) | exact v_cF (CA.p) (by rfl) (HA.p) (by rfl)) ?_)
               exact ⟨l, _, ext_app _ _, rfl, own_pk hc1 hc2 rfl (by first | with_reducible exact ga0 | with_reducible exact ga1 | with_reducible exact ga2 | with_reducible exact ga3 | with_reducible exact ga4 | with_reducible exact ga5 | with_reducible exact ga6 | with_reducible exact ga7 | with_reducible assumption | rfl), fun i hi => (by injection hi with hi; omega), tg hc2, fun s' h2 hh => ⟨s', rfl, hh⟩⟩)
            | (have hp : pickP j d l false = ⟨j, d, l, 0, 0⟩ := by rw [hup false, hat1 (by omega), if_pos (by omega)]
               rw [hp]
               ((try with_reducible refine w_n ?_); refine w_4 rfl (by first | exact v_t (by rfl) | exact v_c1 (C1.p) (by rfl) (HA.p) (by rfl) | exact v_cF (CA.p) (by rfl) (HA.p) (by rfl)) (by first | exact v_t (by rfl) | exact v_c1 (C1.p) (by rfl) (HA.p) (by rfl) | exact v_cF (CA.p) (by rfl) (HA.p) (by rfl)) (by first | exact v_t (by rfl) | exact v_c1 (C1.p) (by rfl) (HA.p) (by rfl) | exact v_cF (CA.p) (by rfl) (HA.p) (by rfl)) (by first | exact v_t (by rfl) | exact v_c1 (C1.p) (by rfl) (HA.p) (by rfl) | exact v_cF (CA.p) (by rfl) (HA.p) (by rfl)) ?_)
               exact ⟨l, _, ext_app _ _, rfl, own_pk hc1 hc2 rfl (by first | with_reducible exact ga0 | with_reducible exact ga1 | with_reducible exact ga2 | with_reducible exact ga3 | with_reducible exact ga4 | with_reducible exact ga5 | with_reducible exact ga6 | with_reducible exact ga7 | with_reducible assumption | rfl), fun i hi => (by injection hi with hi; omega), tg hc2, fun s' h2 hh => ⟨s', rfl, hh⟩⟩)
            | (have hp : pickP j d l true = ⟨-1, 0, l.set (fr l 0).toNat (failT (l.getD (fr l 0).toNat tk0)), 4, 0⟩ := by rw [hup true, hat1 (by omega), if_neg (by omega), if_pos rfl]
               rw [hp]
               ((try with_reducible refine w_n ?_); refine w_4 rfl (by first | exact v_t (by rfl) | exact v_c1 (C1.p) (by rfl) (HA.p) (by rfl) | exact v_cF (CA.p) (by rfl) (HA.p) (by rfl)) (by first | exact v_t (by rfl) | exact v_c1 (C1.p) (by rfl) (HA.p) (by rfl) | exact v_cF (CA.p) (by rfl) (HA.p) (by rfl)) (by first | exact v_t (by rfl) | exact v_c1 (C1.p) (by rfl) (HA.p) (by rfl) | exact v_cF (CA.p) (by rfl) (HA.p) (by rfl)) (by first | exact v_t (by rfl) | exact v_c1 (C1.p) (by rfl) (HA.p) (by rfl) | exact v_cF (CA.p) (by rfl) (HA.p) (by rfl)) ?_)
               exact ⟨_, _, ext_app _ _, rfl, own_pk hc1 hc2 (by rw [List.length_set]) (ga3.trans (congrArg (fun c => some (AObj.cells c 68 true)) (fail_eq hn))), fun i hi => (by injection hi with hi; omega), tg hc2, fun s' h2 hh => ⟨s', rfl, hh⟩⟩)
            | (have hp : pickP j d l false = ⟨fr l 0, 0, l.set (fr l 0).toNat (beginT (l.getD (fr l 0).toNat tk0)), 1, 0⟩ := by rw [hup false, hat1 (by omega), if_neg (by omega), if_neg (by simp), if_pos (by omega)]
               rw [hp]
               ((try with_reducible refine w_n ?_); refine w_4 rfl (by first | exact v_t (by rfl) | exact v_c1 (C1.p) (by rfl) (HA.p) (by rfl) | exact v_cF (CA.p) (by rfl) (HA.p) (by rfl)) (by first | exact v_t (by rfl) | exact v_c1 (C1.p) (by rfl) (HA.p) (by rfl) | exact v_cF (CA.p) (by rfl) (HA.p) (by rfl)) (by first | exact v_t (by rfl) | exact v_c1 (C1.p) (by rfl) (HA.p) (by rfl) | exact v_cF (CA.p) (by rfl) (HA.p) (by rfl)) (by first | exact v_t (by rfl) | exact v_c1 (C1.p) (by rfl) (HA.p) (by rfl) | exact v_cF (CA.p) (by rfl) (HA.p) (by rfl)) ?_)
               exact ⟨_, _, ext_app _ _, rfl, own_pk hc1 hc2 (by rw [List.length_set]) (ga3.trans (congrArg (fun c => some (AObj.cells c 68 true)) (set_f hn))), fun i hi => (by injection hi with hi; omega), tg hc2, fun s' h2 hh => ⟨s', rfl, hh⟩⟩)
  · have hn : j.toNat < l.length := by omega
    have hA := hrgA _ hn
    have hB := hrg _ hn
    have hC := hk.2.2.2.2.2 (by omega)
    cases b
    all_goals
      refine acalls_of_wk hm Try.func44 rfl ?_
      simp only [Try.ntmps44, List.length_cons, List.length_nil, Nat.reduceAdd, Nat.reduceSub, List.reduceReplicate, List.cons_append, List.nil_append]
      show wk _ _ none _ _ ⟨_, []⟩ _
      have el5 := mkEL encT_ok tk0 hS
      with_reducible refine s_seq ?_
      with_reducible refine s_reg ?_
      refine sboxA ?_
      simp only [pu', p0', c1', c0', i1', n0', n3', n1', n2', a2', a1', a0', n4', Nat.reduceAdd, z0', n5', sa0, sa1, sa2, sa3, sa4, sa5, sa6, sa7, sa8, sa9, sa10, sa11]
      refine salloc ?_
      simp only [pu', p0', c1', c0', i1', n0', n3', n1', n2', a2', a1', a0', n4', Nat.reduceAdd, z0', n5', sa0, sa1, sa2, sa3, sa4, sa5, sa6, sa7, sa8, sa9, sa10, sa11]
      refine sassign ?_
      simp only [pu', p0', c1', c0', i1', z0', b8_nat]
      refine sassign ?_
      simp only [pu', p0', c1', c0', i1', z0', b8_nat]
      refine sassign ?_
      simp only [pu', p0', c1', c0', i1', z0', b8_nat]
      with_reducible refine s_end ?_
      with_reducible refine s_then ?_
      with_reducible refine s_seq ?_
      with_reducible refine s_reg ?_
      refine sloadW ?_
      simp only [pu', p0', c1', c0', i1', z0', b8_nat]
      refine smove ?_
      simp only [pu', p0', c1', c0', i1', z0', b8_nat]
      refine sM (hx := rfl) (rcheck_any _ _ _ _ _ (hS.ext (ext_app _ _)) hlen) ?_
      simp only [pu', p0', c1', c0', i1', z0', b8_nat]
      refine sassign ?_
      simp only [pu', p0', c1', c0', i1', z0', b8_nat]
      with_reducible refine s_end ?_
      with_reducible refine s_then ?_
      with_reducible refine s_seq ?_
      with_reducible refine s_seq ?_
      with_reducible refine s_reg ?_
      refine smove ?_
      simp only [pu', p0', c1', c0', i1', z0', b8_nat]
      refine sNe (fun hb => ?_) (fun hb => ?_)
      replace hb := dT' hb
      (exfalso; omega)
      replace hb := dF' hb
      simp only [pu', p0', c1', c0', i1', z0', b8_nat]
      with_reducible refine s_end ?_
      with_reducible refine s_then ?_
      refine sCF ?_
      with_reducible refine s_skip ?_
      with_reducible refine s_then ?_
      with_reducible refine s_seq ?_
      with_reducible refine s_reg ?_
      refine sbsl ?_
      simp only [pu', p0', c1', c0', i1', n0', n3', n1', n2', a2', a1', a0', n4', Nat.reduceAdd, z0', n5', sa0, sa1, sa2, sa3, sa4, sa5, sa6, sa7, sa8, sa9, sa10, sa11]
      refine smove ?_
      simp only [pu', p0', c1', c0', i1', z0', b8_nat]
      refine s_gH (by rfl) (x_app (by exact e_any (by rfl)) (by exact e_any (by rfl)) (app_fresh encT_ok sl_24 el_68 (by first | with_reducible exact ga0 | with_reducible exact ga1 | with_reducible exact ga2 | with_reducible exact ga3 | with_reducible exact ga4 | with_reducible exact ga5 | with_reducible exact ga6 | with_reducible exact ga7 | with_reducible assumption | rfl) (hS.ext (ext_app _ _)) hlen hl)) ?_
      simp only [Fr.put, List.set_cons_succ, List.set_cons_zero, Int.toNat_natCast, List.length_append, List.length_set, List.length_cons, List.length_nil, List.nil_append, List.cons_append, List.append_assoc, List.length_replicate, Nat.reduceAdd, Nat.zero_add, Nat.add_assoc, sa0, sa1, sa2, sa3, sa4, sa5, sa6, sa7, sa8, sa9, sa10, sa11]
      focus
        first
          | refine sassign ?_
            simp only [pu', p0', c1', c0', i1', z0', b8_nat]
            with_reducible refine s_end ?_
            with_reducible refine s_then ?_
            with_reducible refine s_seq ?_
            with_reducible refine s_reg ?_
            refine sfad ?_
            simp only [pu', p0', c1', c0', i1', z0', b8_nat]
            refine sload1 ?_
            simp only [pu', p0', c1', c0', i1', z0', b8_nat]
            refine sassign ?_
            simp only [pu', p0', c1', c0', i1', z0', b8_nat]
            with_reducible refine s_end ?_
            with_reducible refine s_then ?_
            with_reducible refine s_seq ?_
            with_reducible refine s_seq ?_
            with_reducible refine s_reg ?_
            refine smove ?_
            simp only [pu', p0', c1', c0', i1', z0', b8_nat]
            refine sEq (fun hb => ?_) (fun hb => ?_)
            replace hb := dT' hb
            (exfalso; omega)
            replace hb := dF' hb
            simp only [pu', p0', c1', c0', i1', z0', b8_nat]
            with_reducible refine s_end ?_
            with_reducible refine s_then ?_
            refine sCF ?_
            with_reducible refine s_skip ?_
            with_reducible refine s_then ?_
            with_reducible refine s_seq ?_
            with_reducible refine s_block ?_
            with_reducible refine s_seq ?_
            with_reducible refine s_reg ?_
            refine smove ?_
            simp only [pu', p0', c1', c0', i1', z0', b8_nat]
            refine sEq (fun hb => ?_) (fun hb => ?_)
            replace hb := dT' hb
            (exfalso; omega)
            replace hb := dF' hb
            simp only [pu', p0', c1', c0', i1', z0', b8_nat]
            refine sassign ?_
            simp only [pu', p0', c1', c0', i1', z0', b8_nat]
            with_reducible refine s_end ?_
            with_reducible refine s_then ?_
            refine sCF ?_
            with_reducible refine s_seq ?_
            with_reducible refine s_reg ?_
            refine smove ?_
            simp only [pu', p0', c1', c0', i1', z0', b8_nat]
            refine sassign ?_
            simp only [pu', p0', c1', c0', i1', z0', b8_nat]
            with_reducible refine s_end ?_
            with_reducible refine s_then ?_
            refine sCF ?_
            with_reducible refine s_seq ?_
            with_reducible refine s_reg ?_
            refine sfad ?_
            simp only [pu', p0', c1', c0', i1', z0', b8_nat]
            refine sload1 ?_
            simp only [pu', p0', c1', c0', i1', z0', b8_nat]
            refine sEq (fun hb => ?_) (fun hb => ?_)
            replace hb := dT' hb
            (exfalso; omega)
            replace hb := dF' hb
            simp only [pu', p0', c1', c0', i1', z0', b8_nat]
            refine sassign ?_
            simp only [pu', p0', c1', c0', i1', z0', b8_nat]
            with_reducible refine s_end ?_
            with_reducible refine s_then ?_
            refine sCF ?_
            with_reducible refine s_seq ?_
            (refine s_regQ (id := 17) [(0, true), (1, true), (2, true), (3, true), (4, true), (5, true), (6, true), (7, true), (8, true), (9, true)] (by kernel_rfl) (by conv => lhs; simp only [pickO, List.getElem?_cons_succ, List.getElem?_cons_zero]) ?_)
            refine qfad ?_
            simp only [pu', p0', c1', c0', i1', z0', b8_nat]
            refine qload1 ?_
            simp only [pu', p0', c1', c0', i1', z0', b8_nat]
            refine qadd ?_
            simp only [pu', p0', c1', c0', i1', z0', b8_nat]
            refine qmove ?_
            simp only [pu', p0', c1', c0', i1', z0', b8_nat]
            refine qmove ?_
            simp only [pu', p0', c1', c0', i1', z0', b8_nat]
            refine qidxS ?_
            simp only [pu', p0', c1', c0', i1', z0', b8_nat]
            refine qfad ?_
            simp only [pu', p0', c1', c0', i1', z0', b8_nat]
            ((with_reducible refine is_q (.load _ _) ?_); refine q_gL (by rfl) (x_load1 (by first | exact s1_3 | exact s1_4) (by exact e_any (by rfl)) (by first | with_reducible exact ga0 | with_reducible exact ga1 | with_reducible exact ga2 | with_reducible exact ga3 | with_reducible exact ga4 | with_reducible exact ga5 | with_reducible exact ga6 | with_reducible exact ga7 | with_reducible assumption | rfl) (fT hn (by rfl))) ?_; simp only [Fr.put, List.set_cons_succ, List.set_cons_zero, Int.toNat_natCast, Nat.zero_add])
            refine qLt (fun hb => ?_) (fun hb => ?_)
            replace hb := dT' hb
            simp only [pu', p0', c1', c0', i1', z0', b8_nat]
            refine qassign ?_
            simp only [pu', p0', c1', c0', i1', z0', b8_nat]
            with_reducible refine q_end ?_
            with_reducible refine s_then ?_
            refine sCT ?_
            with_reducible refine s_seq ?_
            with_reducible refine s_reg ?_
            refine sfad ?_
            simp only [pu', p0', c1', c0', i1', z0', b8_nat]
            refine sload1 ?_
            simp only [pu', p0', c1', c0', i1', z0', b8_nat]
            refine sadd ?_
            simp only [pu', p0', c1', c0', i1', z0', b8_nat]
            refine sfad ?_
            simp only [pu', p0', c1', c0', i1', z0', b8_nat]
            refine sstore1 ?_
            simp only [pu', p0', c1', c0', i1', n0', n3', n1', n2', a2', a1', a0', n4', Nat.reduceAdd, z0', n5', sa0, sa1, sa2, sa3, sa4, sa5, sa6, sa7, sa8, sa9, sa10, sa11]
            with_reducible refine s_end ?_
            with_reducible refine s_then ?_
            with_reducible refine s_seq ?_
            with_reducible refine s_reg ?_
            refine sloadW ?_
            simp only [pu', p0', c1', c0', i1', z0', b8_nat]
            refine smove ?_
            simp only [pu', p0', c1', c0', i1', z0', b8_nat]
            refine sstoreF ?_
            simp only [pu', p0', c1', c0', i1', n0', n3', n1', n2', a2', a1', a0', n4', Nat.reduceAdd, z0', n5', sa0, sa1, sa2, sa3, sa4, sa5, sa6, sa7, sa8, sa9, sa10, sa11]
            refine sassign ?_
            simp only [pu', p0', c1', c0', i1', z0', b8_nat]
            refine sassign ?_
            simp only [pu', p0', c1', c0', i1', z0', b8_nat]
            refine sassign ?_
            simp only [pu', p0', c1', c0', i1', z0', b8_nat]
            with_reducible refine s_end ?_
            with_reducible refine s_then ?_
            with_reducible refine s_ret ?_
            with_reducible refine s_blkR ?_
            with_reducible refine s_thenR ?_
            rotate_left 1
            replace hb := dF' hb
            simp only [pu', p0', c1', c0', i1', z0', b8_nat]
            refine qassign ?_
            simp only [pu', p0', c1', c0', i1', z0', b8_nat]
            with_reducible refine q_end ?_
            with_reducible refine s_then ?_
            refine sCF ?_
            with_reducible refine s_skip ?_
            with_reducible refine s_blkN ?_
            with_reducible refine s_then ?_
            with_reducible refine s_seq ?_
            with_reducible refine s_reg ?_
            refine smove ?_
            simp only [pu', p0', c1', c0', i1', z0', b8_nat]
            refine smove ?_
            simp only [pu', p0', c1', c0', i1', z0', b8_nat]
            refine sidxS ?_
            simp only [pu', p0', c1', c0', i1', z0', b8_nat]
            refine sfad ?_
            simp only [pu', p0', c1', c0', i1', z0', b8_nat]
            ((with_reducible refine is_s (.store _ _ _) ?_); refine s_gH (by rfl) (x_store1 (by first | exact s1_3 | exact s1_4) (by exact e_any (by rfl)) (by exact e_any (by rfl)) (by rfl) (by first | with_reducible exact ga0 | with_reducible exact ga1 | with_reducible exact ga2 | with_reducible exact ga3 | with_reducible exact ga4 | with_reducible exact ga5 | with_reducible exact ga6 | with_reducible exact ga7 | with_reducible assumption | rfl) (by (try simp only [List.length_set]); exact gT hn (by omega))) ?_; simp only [Fr.put, List.set_cons_succ, List.set_cons_zero, Int.toNat_natCast, List.length_append, List.length_set, List.length_cons, List.length_nil, List.nil_append, List.cons_append, List.append_assoc, List.length_replicate, Nat.reduceAdd, Nat.zero_add, Nat.add_assoc, sa0, sa1, sa2, sa3, sa4, sa5, sa6, sa7, sa8, sa9, sa10, sa11])
            with_reducible refine s_end ?_
            with_reducible refine s_then ?_
            with_reducible refine s_seq ?_
            with_reducible refine s_reg ?_
            refine sK (hx := rfl) (ridle_any) ?_
            simp only [pu', p0', c1', c0', i1', z0', b8_nat]
            refine smove ?_
            simp only [pu', p0', c1', c0', i1', z0', b8_nat]
            refine sstoreF ?_
            simp only [pu', p0', c1', c0', i1', n0', n3', n1', n2', a2', a1', a0', n4', Nat.reduceAdd, z0', n5', sa0, sa1, sa2, sa3, sa4, sa5, sa6, sa7, sa8, sa9, sa10, sa11]
            refine sassign ?_
            simp only [pu', p0', c1', c0', i1', z0', b8_nat]
            refine sassign ?_
            simp only [pu', p0', c1', c0', i1', z0', b8_nat]
            refine sassign ?_
            simp only [pu', p0', c1', c0', i1', z0', b8_nat]
            with_reducible refine s_end ?_
            with_reducible refine s_then ?_
            with_reducible refine s_ret ?_
            rotate_left 1
          | refine sassign ?_
            simp only [pu', p0', c1', c0', i1', z0', b8_nat]
            with_reducible refine s_end ?_
            with_reducible refine s_then ?_
            with_reducible refine s_seq ?_
            with_reducible refine s_reg ?_
            refine sfad ?_
            simp only [pu', p0', c1', c0', i1', z0', b8_nat]
            refine sload1 ?_
            simp only [pu', p0', c1', c0', i1', z0', b8_nat]
            refine sassign ?_
            simp only [pu', p0', c1', c0', i1', z0', b8_nat]
            with_reducible refine s_end ?_
            with_reducible refine s_then ?_
            with_reducible refine s_seq ?_
            with_reducible refine s_seq ?_
            with_reducible refine s_reg ?_
            refine smove ?_
            simp only [pu', p0', c1', c0', i1', z0', b8_nat]
            refine sEq (fun hb => ?_) (fun hb => ?_)
            replace hb := dT' hb
            (exfalso; omega)
            replace hb := dF' hb
            simp only [pu', p0', c1', c0', i1', z0', b8_nat]
            with_reducible refine s_end ?_
            with_reducible refine s_then ?_
            refine sCF ?_
            with_reducible refine s_skip ?_
            with_reducible refine s_then ?_
            with_reducible refine s_seq ?_
            with_reducible refine s_block ?_
            with_reducible refine s_seq ?_
            with_reducible refine s_reg ?_
            refine smove ?_
            simp only [pu', p0', c1', c0', i1', z0', b8_nat]
            refine sEq (fun hb => ?_) (fun hb => ?_)
            replace hb := dT' hb
            (exfalso; omega)
            replace hb := dF' hb
            simp only [pu', p0', c1', c0', i1', z0', b8_nat]
            refine sassign ?_
            simp only [pu', p0', c1', c0', i1', z0', b8_nat]
            with_reducible refine s_end ?_
            with_reducible refine s_then ?_
            refine sCF ?_
            with_reducible refine s_seq ?_
            with_reducible refine s_reg ?_
            refine smove ?_
            simp only [pu', p0', c1', c0', i1', z0', b8_nat]
            refine sassign ?_
            simp only [pu', p0', c1', c0', i1', z0', b8_nat]
            with_reducible refine s_end ?_
            with_reducible refine s_then ?_
            refine sCT ?_
            with_reducible refine s_seq ?_
            with_reducible refine s_reg ?_
            refine smove ?_
            simp only [pu', p0', c1', c0', i1', z0', b8_nat]
            refine smove ?_
            simp only [pu', p0', c1', c0', i1', z0', b8_nat]
            refine sidxS ?_
            simp only [pu', p0', c1', c0', i1', z0', b8_nat]
            refine sfad ?_
            simp only [pu', p0', c1', c0', i1', z0', b8_nat]
            ((with_reducible refine is_s (.store _ _ _) ?_); refine s_gH (by rfl) (x_store1 (by first | exact s1_3 | exact s1_4) (by exact e_any (by rfl)) (by exact e_any (by rfl)) (by rfl) (by first | with_reducible exact ga0 | with_reducible exact ga1 | with_reducible exact ga2 | with_reducible exact ga3 | with_reducible exact ga4 | with_reducible exact ga5 | with_reducible exact ga6 | with_reducible exact ga7 | with_reducible assumption | rfl) (by (try simp only [List.length_set]); exact gT hn (by omega))) ?_; simp only [Fr.put, List.set_cons_succ, List.set_cons_zero, Int.toNat_natCast, List.length_append, List.length_set, List.length_cons, List.length_nil, List.nil_append, List.cons_append, List.append_assoc, List.length_replicate, Nat.reduceAdd, Nat.zero_add, Nat.add_assoc, sa0, sa1, sa2, sa3, sa4, sa5, sa6, sa7, sa8, sa9, sa10, sa11])
            with_reducible refine s_end ?_
            with_reducible refine s_then ?_
            with_reducible refine s_seq ?_
            with_reducible refine s_reg ?_
            refine smove ?_
            simp only [pu', p0', c1', c0', i1', z0', b8_nat]
            refine smove ?_
            simp only [pu', p0', c1', c0', i1', z0', b8_nat]
            refine smove ?_
            simp only [pu', p0', c1', c0', i1', z0', b8_nat]
            refine smove ?_
            simp only [pu', p0', c1', c0', i1', z0', b8_nat]
            refine sidxS ?_
            simp only [pu', p0', c1', c0', i1', z0', b8_nat]
            refine sfad ?_
            simp only [pu', p0', c1', c0', i1', z0', b8_nat]
            ((with_reducible refine is_s (.load _ _) ?_); refine s_gL (by rfl) (x_load1 (by first | exact s1_3 | exact s1_4) (by exact e_any (by rfl)) (by first | with_reducible exact ga0 | with_reducible exact ga1 | with_reducible exact ga2 | with_reducible exact ga3 | with_reducible exact ga4 | with_reducible exact ga5 | with_reducible exact ga6 | with_reducible exact ga7 | with_reducible assumption | rfl) ((List.getElem?_set_ne (by omega)).trans (fT hn (by rfl)))) ?_; simp only [Fr.put, List.set_cons_succ, List.set_cons_zero, Int.toNat_natCast, Nat.zero_add])
            refine sadd ?_
            simp only [pu', p0', c1', c0', i1', z0', b8_nat]
            refine smin ?_
            simp only [pu', p0', c1', c0', i1', z0', b8_nat]
            refine sidxS ?_
            simp only [pu', p0', c1', c0', i1', z0', b8_nat]
            refine sfad ?_
            simp only [pu', p0', c1', c0', i1', z0', b8_nat]
            ((with_reducible refine is_s (.store _ _ _) ?_); refine s_gH (by rfl) (x_store1 (by first | exact s1_3 | exact s1_4) (by exact e_any (by rfl)) (by exact e_any (by rfl)) (by rfl) (by first | with_reducible exact ga0 | with_reducible exact ga1 | with_reducible exact ga2 | with_reducible exact ga3 | with_reducible exact ga4 | with_reducible exact ga5 | with_reducible exact ga6 | with_reducible exact ga7 | with_reducible assumption | rfl) (by (try simp only [List.length_set]); exact gT hn (by omega))) ?_; simp only [Fr.put, List.set_cons_succ, List.set_cons_zero, Int.toNat_natCast, List.length_append, List.length_set, List.length_cons, List.length_nil, List.nil_append, List.cons_append, List.append_assoc, List.length_replicate, Nat.reduceAdd, Nat.zero_add, Nat.add_assoc, sa0, sa1, sa2, sa3, sa4, sa5, sa6, sa7, sa8, sa9, sa10, sa11])
            with_reducible refine s_end ?_
            with_reducible refine s_then ?_
            with_reducible refine s_seq ?_
            with_reducible refine s_reg ?_
            refine sK (hx := rfl) (ridle_any) ?_
            simp only [pu', p0', c1', c0', i1', z0', b8_nat]
            refine smove ?_
            simp only [pu', p0', c1', c0', i1', z0', b8_nat]
            refine sstoreF ?_
            simp only [pu', p0', c1', c0', i1', n0', n3', n1', n2', a2', a1', a0', n4', Nat.reduceAdd, z0', n5', sa0, sa1, sa2, sa3, sa4, sa5, sa6, sa7, sa8, sa9, sa10, sa11]
            refine sassign ?_
            simp only [pu', p0', c1', c0', i1', z0', b8_nat]
            refine sassign ?_
            simp only [pu', p0', c1', c0', i1', z0', b8_nat]
            refine sassign ?_
            simp only [pu', p0', c1', c0', i1', z0', b8_nat]
            with_reducible refine s_end ?_
            with_reducible refine s_then ?_
            with_reducible refine s_ret ?_
            with_reducible refine s_blkR ?_
            with_reducible refine s_thenR ?_
      all_goals
        first
          | (have hp : pickP j d l true = ⟨-1, 0, l.set j.toNat (failT (l.getD j.toNat tk0)), 4, 0⟩ := by rw [hup true, hat2 (by omega), if_neg (by omega), if_pos rfl]
             rw [hp]
             ((try with_reducible refine w_n ?_); refine w_4 rfl (by first | exact v_t (by rfl) | exact v_c1 (C1.p) (by rfl) (HA.p) (by rfl) | exact v_cF (CA.p) (by rfl) (HA.p) (by rfl)) (by first | exact v_t (by rfl) | exact v_c1 (C1.p) (by rfl) (HA.p) (by rfl) | exact v_cF (CA.p) (by rfl) (HA.p) (by rfl)) (by first | exact v_t (by rfl) | exact v_c1 (C1.p) (by rfl) (HA.p) (by rfl) | exact v_cF (CA.p) (by rfl) (HA.p) (by rfl)) (by first | exact v_t (by rfl) | exact v_c1 (C1.p) (by rfl) (HA.p) (by rfl) | exact v_cF (CA.p) (by rfl) (HA.p) (by rfl)) ?_)
             exact ⟨_, _, ext_app _ _, rfl, own_pk hc1 hc2 (by rw [List.length_set]) (ga3.trans (congrArg (fun c => some (AObj.cells c 68 true)) (fail_eq hn))), fun i hi => (by injection hi with hi; omega), tg hc2, fun s' h2 hh => ⟨s', rfl, hh⟩⟩)
          | (have hp : pickP j d l false = ⟨-1, 0, l.set j.toNat (overT (l.getD j.toNat tk0)), 3, 0⟩ := by rw [hup false, hat2 (by omega), if_neg (by omega), if_neg (by simp), if_neg (by omega), if_pos (by omega)]
             rw [hp]
             ((try with_reducible refine w_n ?_); refine w_4 rfl (by first | exact v_t (by rfl) | exact v_c1 (C1.p) (by rfl) (HA.p) (by rfl) | exact v_cF (CA.p) (by rfl) (HA.p) (by rfl)) (by first | exact v_t (by rfl) | exact v_c1 (C1.p) (by rfl) (HA.p) (by rfl) | exact v_cF (CA.p) (by rfl) (HA.p) (by rfl)) (by first | exact v_t (by rfl) | exact v_c1 (C1.p) (by rfl) (HA.p) (by rfl) | exact v_cF (CA.p) (by rfl) (HA.p) (by rfl)) (by first | exact v_t (by rfl) | exact v_c1 (C1.p) (by rfl) (HA.p) (by rfl) | exact v_cF (CA.p) (by rfl) (HA.p) (by rfl)) ?_)
             exact ⟨_, _, ext_app _ _, rfl, own_pk hc1 hc2 (by rw [List.length_set]) (ga3.trans (congrArg (fun c => some (AObj.cells c 68 true)) (set_o hn))), fun i hi => (by injection hi with hi; omega), tg hc2, fun s' h2 hh => ⟨s', rfl, hh⟩⟩)
          | (have hp : pickP j d l false = ⟨j, d + 1, l, 2, 0⟩ := by rw [hup false, hat2 (by omega), if_neg (by omega), if_neg (by simp), if_neg (by omega), if_neg (by omega)]
             rw [hp]
             ((try with_reducible refine w_n ?_); refine w_4 rfl (by first | exact v_t (by rfl) | exact v_c1 (C1.p) (by rfl) (HA.p) (by rfl) | exact v_cF (CA.p) (by rfl) (HA.p) (by rfl)) (by first | exact v_t (by rfl) | exact v_c1 (C1.p) (by rfl) (HA.p) (by rfl) | exact v_cF (CA.p) (by rfl) (HA.p) (by rfl)) (by first | exact v_t (by rfl) | exact v_c1 (C1.p) (by rfl) (HA.p) (by rfl) | exact v_cF (CA.p) (by rfl) (HA.p) (by rfl)) (by first | exact v_t (by rfl) | exact v_c1 (C1.p) (by rfl) (HA.p) (by rfl) | exact v_cF (CA.p) (by rfl) (HA.p) (by rfl)) ?_)
             exact ⟨l, _, ext_app _ _, rfl, own_pk hc1 hc2 rfl (by first | with_reducible exact ga0 | with_reducible exact ga1 | with_reducible exact ga2 | with_reducible exact ga3 | with_reducible exact ga4 | with_reducible exact ga5 | with_reducible exact ga6 | with_reducible exact ga7 | with_reducible assumption | rfl), fun i hi => (by injection hi with hi; omega), tg hc2, fun s' h2 hh => ⟨s', rfl, hh⟩⟩)
end
end Go.Proofs.Ytfcgmkpihmiadaa
