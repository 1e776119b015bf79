/-
  A part of the proof of a statement of a chapter's seat; conditions: stated at each theorem.
-/
import Derived.Test.YtfcgmkpihmiadaaP7
set_option linter.unusedVariables false
set_option linter.unusedSectionVars false
set_option linter.unusedSimpArgs false
set_option linter.unusedVariables false
set_option maxRecDepth 100000
set_option maxHeartbeats 8000000
namespace Go.Proofs.Ytfcgmkpihmiadaa
open Go.Az Go
section
variable (j d : Int) (b : Bool) (h : Hp) (s : AV) (l : List Tk) (hS : TS h s l) (hlen : l.length ≤ 1099511627776)
include hS hlen
theorem pick_any : ACalls Try.prog 40 [WA j d, s, B b] h (fun r h' => ∃ s', r = pkT (pickP j d l b) s' ∧ RetS encT 68 h (pickP j d l b).l s' h') := by
  refine ret_own (e := 68) encT_ok encT_p (pkT (pickP j d l b)) (pkT_ren _) (pkT_sc _) ?_
  by_cases hc : checkE j d l = 0
  case neg =>
    have hp : pickP j d l b = ⟨0, 0, [], 0, checkE j d l⟩ := by rw [pickP, if_pos (by simpa using hc)]
    rw [hp]
    refine acalls_of_wk hm Try.func40 rfl ?_
    simp only [Try.ntmps40, List.length_cons, List.length_nil, Nat.reduceAdd, Nat.reduceSub, List.reduceReplicate, List.cons_append, List.nil_append]
    show wk _ _ none _ _ ⟨_, []⟩ _
    have el1 := mkEL encT_ok tk0 hS
    focus
      with_reducible refine s_seq ?_
      with_reducible refine s_reg ?_
      refine sboxA ?_
      simp only [pu', p0', c1', c0', i1', n0', n3', n1', n2', a2', a1', a0', n4', Nat.reduceAdd, z0', n5', sa0, sa1, sa2, sa3, sa4, sa5, sa6, sa7, sa8, sa9, sa10, sa11]
      refine salloc ?_
      simp only [pu', p0', c1', c0', i1', n0', n3', n1', n2', a2', a1', a0', n4', Nat.reduceAdd, z0', n5', sa0, sa1, sa2, sa3, sa4, sa5, sa6, sa7, sa8, sa9, sa10, sa11]
      refine salloc ?_
      simp only [pu', p0', c1', c0', i1', n0', n3', n1', n2', a2', a1', a0', n4', Nat.reduceAdd, z0', n5', sa0, sa1, sa2, sa3, sa4, sa5, sa6, sa7, sa8, sa9, sa10, sa11]
      refine sassign ?_
      simp only [pu', p0', c1', c0', i1', z0', b8_nat]
      refine sassign ?_
      simp only [pu', p0', c1', c0', i1', z0', b8_nat]
      with_reducible refine s_end ?_
      with_reducible refine s_then ?_
      with_reducible refine s_seq ?_
      with_reducible refine s_seq ?_
      with_reducible refine s_reg ?_
      refine sloadW ?_
      simp only [pu', p0', c1', c0', i1', z0', b8_nat]
      refine smove ?_
      simp only [pu', p0', c1', c0', i1', z0', b8_nat]
      refine sM (hx := rfl) (check_any _ _ _ _ _ (hS.ext (ext_app _ _)) hlen) ?_
      simp only [pu', p0', c1', c0', i1', z0', b8_nat]
      refine sassign ?_
      simp only [pu', p0', c1', c0', i1', z0', b8_nat]
      with_reducible refine s_end ?_
      with_reducible refine s_then ?_
      with_reducible refine s_seq ?_
      with_reducible refine s_reg ?_
      refine smove ?_
      simp only [pu', p0', c1', c0', i1', z0', b8_nat]
      refine sNe (fun hb => ?_) (fun hb => ?_)
      replace hb := dT' hb
      simp only [pu', p0', c1', c0', i1', z0', b8_nat]
      with_reducible refine s_end ?_
      with_reducible refine s_then ?_
      refine sCT ?_
      with_reducible refine s_seq ?_
      with_reducible refine s_reg ?_
      refine sbuild ?_
      simp only [pu', p0', c1', c0', i1', z0', b8_nat]
      refine smove ?_
      simp only [pu', p0', c1', c0', i1', z0', b8_nat]
      refine sstoreF ?_
      simp only [pu', p0', c1', c0', i1', n0', n3', n1', n2', a2', a1', a0', n4', Nat.reduceAdd, z0', n5', sa0, sa1, sa2, sa3, sa4, sa5, sa6, sa7, sa8, sa9, sa10, sa11]
      refine sstore1 ?_
      simp only [pu', p0', c1', c0', i1', n0', n3', n1', n2', a2', a1', a0', n4', Nat.reduceAdd, z0', n5', sa0, sa1, sa2, sa3, sa4, sa5, sa6, sa7, sa8, sa9, sa10, sa11]
      refine sassign ?_
      simp only [pu', p0', c1', c0', i1', z0', b8_nat]
      refine sassign ?_
      simp only [pu', p0', c1', c0', i1', z0', b8_nat]
      with_reducible refine s_end ?_
      with_reducible refine s_then ?_
      with_reducible refine s_ret ?_
      with_reducible refine s_thenR ?_
      rotate_left 1
      replace hb := dF' hb
      exact absurd (by with_reducible assumption) hb
    all_goals try with_reducible refine w_n ?_
    all_goals refine w_4 rfl (by first | exact v_t (by rfl) | exact v_c1 (C1.p) (by rfl) (HA.p) (by rfl) | exact v_cF (CA.p) (by rfl) (HA.p) (by rfl)) (by first | exact v_t (by rfl) | exact v_c1 (C1.p) (by rfl) (HA.p) (by rfl) | exact v_cF (CA.p) (by rfl) (HA.p) (by rfl)) (by first | exact v_t (by rfl) | exact v_c1 (C1.p) (by rfl) (HA.p) (by rfl) | exact v_cF (CA.p) (by rfl) (HA.p) (by rfl)) (by first | exact v_t (by rfl) | exact v_c1 (C1.p) (by rfl) (HA.p) (by rfl) | exact v_cF (CA.p) (by rfl) (HA.p) (by rfl)) ?_
    exact ⟨[], nilS, ext_app _ _, rfl, .inl ⟨rfl, rfl⟩, fun i hi => (by cases hi), tight_nil, fun s' h2 hh => ⟨s', rfl, hh⟩⟩
  have hk := ck_ok hc
  have hfr := fr_rng l 0 (by omega)
  have hat1 : j < 0 → atF j l = fr l 0 := fun hj => by rw [atF, if_pos (by omega)]
  have hat2 : ¬ j < 0 → atF j l = j := fun hj => by rw [atF, if_neg (by omega)]
  have hrg := fun n hn => jobs_rng hk.1 n hn
  have hrgA := fun n hn => jobs_rngA hk.1 n hn
  have own_pk : ∀ {X : Hp} {c : Nat} {u : Bool} {l' : List Tk}, (u = true → c = 0) → (u = false → c = l.length) → l'.length = l.length → X[h.length + 3]? = some (.cells (fl l') 68 true) → Own encT 4 68 X (.sl (h.length + 3) 0 l.length c u) l' := by
    intro X c u l' hc1 hc2 hl hX
    refine .inr ⟨h.length + 3, 0, c, u, _, by rw [hl], hX, by rw [flat_len encT_ok]; omega, ?_, fun hu => ⟨rfl, hc1 hu⟩, fun hu => ?_⟩
    · rw [List.drop_zero, List.take_of_length_le (by rw [flat_len encT_ok]; omega)]
    · rw [flat_len encT_ok, hc2 hu]; omega
  have tg : ∀ {c : Nat} {u : Bool}, (u = false → c = l.length) → Tight (.sl (h.length + 3) 0 l.length c u) := by
    intro c u hc2
    cases u
    · rw [hc2 rfl]; exact tight_f
    · exact tight_u
  have hz : fr [] 0 = -1 := rfl
  have hup := fun b => show pickP j d l b = if atF j l < 0 then ⟨j, d, l, 0, 0⟩ else
    if b = true then ⟨-1, 0, l.set (atF j l).toNat (failT (l.getD (atF j l).toNat tk0)), 4, 0⟩ else
    if j = -1 then ⟨atF j l, 0, l.set (atF j l).toNat (beginT (l.getD (atF j l).toNat tk0)), 1, 0⟩ else
    if d + 1 = (l.getD (atF j l).toNat tk0).u then ⟨-1, 0, l.set (atF j l).toNat (overT (l.getD (atF j l).toNat tk0)), 3, 0⟩ else ⟨j, d + 1, l, 2, 0⟩ by rw [pickP, if_neg (by simpa using hc)]
  by_cases hu : d + 1 = (l.getD j.toNat tk0).u
  all_goals cases b
  all_goals
    refine acalls_of_wk hm Try.func40 rfl ?_
    simp only [Try.ntmps40, List.length_cons, List.length_nil, Nat.reduceAdd, Nat.reduceSub, List.reduceReplicate, List.cons_append, List.nil_append]
    show wk _ _ none _ _ ⟨_, []⟩ _
    have el2 := mkEL encT_ok tk0 hS
    with_reducible refine s_seq ?_
    with_reducible refine s_reg ?_
    refine sboxA ?_
    simp only [pu', p0', c1', c0', i1', n0', n3', n1', n2', a2', a1', a0', n4', Nat.reduceAdd, z0', n5', sa0, sa1, sa2, sa3, sa4, sa5, sa6, sa7, sa8, sa9, sa10, sa11]
    refine salloc ?_
    simp only [pu', p0', c1', c0', i1', n0', n3', n1', n2', a2', a1', a0', n4', Nat.reduceAdd, z0', n5', sa0, sa1, sa2, sa3, sa4, sa5, sa6, sa7, sa8, sa9, sa10, sa11]
    refine salloc ?_
    simp only [pu', p0', c1', c0', i1', n0', n3', n1', n2', a2', a1', a0', n4', Nat.reduceAdd, z0', n5', sa0, sa1, sa2, sa3, sa4, sa5, sa6, sa7, sa8, sa9, sa10, sa11]
    refine sassign ?_
    simp only [pu', p0', c1', c0', i1', z0', b8_nat]
    refine sassign ?_
    simp only [pu', p0', c1', c0', i1', z0', b8_nat]
    with_reducible refine s_end ?_
    with_reducible refine s_then ?_
    with_reducible refine s_seq ?_
    with_reducible refine s_seq ?_
    with_reducible refine s_reg ?_
    refine sloadW ?_
    simp only [pu', p0', c1', c0', i1', z0', b8_nat]
    refine smove ?_
    simp only [pu', p0', c1', c0', i1', z0', b8_nat]
    refine sM (hx := rfl) (check_any _ _ _ _ _ (hS.ext (ext_app _ _)) hlen) ?_
    simp only [pu', p0', c1', c0', i1', z0', b8_nat]
    refine sassign ?_
    simp only [pu', p0', c1', c0', i1', z0', b8_nat]
    with_reducible refine s_end ?_
    with_reducible refine s_then ?_
    with_reducible refine s_seq ?_
    with_reducible refine s_reg ?_
    refine smove ?_
    simp only [pu', p0', c1', c0', i1', z0', b8_nat]
    refine sNe (fun hb => ?_) (fun hb => ?_)
    replace hb := dT' hb
    (exfalso; omega)
    replace hb := dF' hb
    simp only [pu', p0', c1', c0', i1', z0', b8_nat]
    with_reducible refine s_end ?_
    with_reducible refine s_then ?_
    refine sCF ?_
    with_reducible refine s_skip ?_
    with_reducible refine s_then ?_
    with_reducible refine s_seq ?_
    with_reducible refine s_reg ?_
    refine smove ?_
    simp only [pu', p0', c1', c0', i1', z0', b8_nat]
    refine s_gC (by rfl) (by rfl) ok_58 ((clone_any _ s l (hS.ext (ext_app _ _)) (by omega)).mono ?_)
    rintro r H' _ hR
    rcases hR with ⟨rfl, hl, rfl⟩ | ⟨c, u, rfl, rfl, hc1, hc2⟩
    · subst hl
      have hj : j = -1 := by have := hk.2.2.2.1; simp at this; omega
      have hd := hk.2.2.2.2.1 hj
      subst hj hd
      have hp : ∀ b, pickP (-1) 0 [] b = ⟨-1, 0, [], 0, 0⟩ := fun b => by rw [hup, if_pos (by decide)]
      rw [hp]
      simp only [Fr.put, List.set_cons_succ, List.set_cons_zero, Int.toNat_natCast, List.length_append, List.length_set, List.length_cons, List.length_nil, List.nil_append, List.cons_append, List.append_assoc, List.length_replicate, Nat.reduceAdd, Nat.zero_add, Nat.add_assoc, sa0, sa1, sa2, sa3, sa4, sa5, sa6, sa7, sa8, sa9, sa10, sa11]
      focus
        refine sstore1 ?_
        simp only [pu', p0', c1', c0', i1', n0', n3', n1', n2', a2', a1', a0', n4', Nat.reduceAdd, z0', n5', sa0, sa1, sa2, sa3, sa4, sa5, sa6, sa7, sa8, sa9, sa10, sa11]
        with_reducible refine s_end ?_
        with_reducible refine s_then ?_
        with_reducible refine s_seq ?_
        with_reducible refine s_reg ?_
        refine sfad ?_
        simp only [pu', p0', c1', c0', i1', z0', b8_nat]
        refine sload1 ?_
        simp only [pu', p0', c1', c0', i1', z0', b8_nat]
        refine salloc ?_
        simp only [pu', p0', c1', c0', i1', n0', n3', n1', n2', a2', a1', a0', n4', Nat.reduceAdd, z0', n5', sa0, sa1, sa2, sa3, sa4, sa5, sa6, sa7, sa8, sa9, sa10, sa11]
        refine salloc ?_
        simp only [pu', p0', c1', c0', i1', n0', n3', n1', n2', a2', a1', a0', n4', Nat.reduceAdd, z0', n5', sa0, sa1, sa2, sa3, sa4, sa5, sa6, sa7, sa8, sa9, sa10, sa11]
        refine sstore1 ?_
        simp only [pu', p0', c1', c0', i1', n0', n3', n1', n2', a2', a1', a0', n4', Nat.reduceAdd, z0', n5', sa0, sa1, sa2, sa3, sa4, sa5, sa6, sa7, sa8, sa9, sa10, sa11]
        refine sstore1 ?_
        simp only [pu', p0', c1', c0', i1', n0', n3', n1', n2', a2', a1', a0', n4', Nat.reduceAdd, z0', n5', sa0, sa1, sa2, sa3, sa4, sa5, sa6, sa7, sa8, sa9, sa10, sa11]
        with_reducible refine s_end ?_
        with_reducible refine s_then ?_
        with_reducible refine s_seq ?_
        with_reducible refine s_seq ?_
        with_reducible refine s_reg ?_
        refine sload1 ?_
        simp only [pu', p0', c1', c0', i1', z0', b8_nat]
        refine sLt (fun hb => ?_) (fun hb => ?_)
        replace hb := dT' hb
        simp only [pu', p0', c1', c0', i1', z0', b8_nat]
        with_reducible refine s_end ?_
        with_reducible refine s_then ?_
        refine sCT ?_
        with_reducible refine s_reg ?_
        refine smove ?_
        simp only [pu', p0', c1', c0', i1', z0', b8_nat]
        refine sM (hx := rfl) (free_any _ _ [] (hS.ext (ext_app _ _)) (by simp)) ?_
        simp only [pu', p0', c1', c0', i1', z0', b8_nat]
        refine sstore1 ?_
        simp only [pu', p0', c1', c0', i1', n0', n3', n1', n2', a2', a1', a0', n4', Nat.reduceAdd, z0', n5', sa0, sa1, sa2, sa3, sa4, sa5, sa6, sa7, sa8, sa9, sa10, sa11]
        with_reducible refine s_end ?_
        with_reducible refine s_then ?_
        with_reducible refine s_seq ?_
        with_reducible refine s_reg ?_
        refine sfunc4 ?_
        simp only [pu', p0', c1', c0', i1', z0', b8_nat]
        refine sassign ?_
        simp only [pu', p0', c1', c0', i1', z0', b8_nat]
        with_reducible refine s_end ?_
        with_reducible refine s_then ?_
        with_reducible refine s_seq ?_
        with_reducible refine s_reg ?_
        refine sfunc4 ?_
        simp only [pu', p0', c1', c0', i1', z0', b8_nat]
        refine sassign ?_
        simp only [pu', p0', c1', c0', i1', z0', b8_nat]
        with_reducible refine s_end ?_
        with_reducible refine s_then ?_
        with_reducible refine s_seq ?_
        with_reducible refine s_reg ?_
        refine sfunc4 ?_
        simp only [pu', p0', c1', c0', i1', z0', b8_nat]
        refine sassign ?_
        simp only [pu', p0', c1', c0', i1', z0', b8_nat]
        with_reducible refine s_end ?_
        with_reducible refine s_then ?_
        with_reducible refine s_seq ?_
        with_reducible refine s_block ?_
        with_reducible refine s_seq ?_
        with_reducible refine s_reg ?_
        refine sload1 ?_
        simp only [pu', p0', c1', c0', i1', z0', b8_nat]
        refine sLt (fun hb => ?_) (fun hb => ?_)
        replace hb := dT' hb
        simp only [pu', p0', c1', c0', i1', z0', b8_nat]
        refine sassign ?_
        simp only [pu', p0', c1', c0', i1', z0', b8_nat]
        with_reducible refine s_end ?_
        with_reducible refine s_then ?_
        refine sCT ?_
        with_reducible refine s_skip ?_
        with_reducible refine s_blkN ?_
        with_reducible refine s_then ?_
        with_reducible refine s_seq ?_
        (refine s_regT (id := 17) (.light 0 (.light 1 (.light 2 (.alt 3 [0] (.alt 4 [0, 1] (.light 5 (.light 6 (.done))) (.no)) (.no))))) [3, 4] (by kernel_rfl) (by conv => lhs; simp only [pickT, List.getElem?_cons_succ, List.getElem?_cons_zero]) ?_)
        refine tloadW ?_
        simp only [pu', p0', c1', c0', i1', z0', b8_nat]
        refine tload1 ?_
        simp only [pu', p0', c1', c0', i1', z0', b8_nat]
        refine tload1 ?_
        simp only [pu', p0', c1', c0', i1', z0', b8_nat]
        refine ustoreF ?_
        simp only [pu', p0', c1', c0', i1', n0', n3', n1', n2', a2', a1', a0', n4', Nat.reduceAdd, z0', n5', sa0, sa1, sa2, sa3, sa4, sa5, sa6, sa7, sa8, sa9, sa10, sa11]
        refine ustore1 ?_
        simp only [pu', p0', c1', c0', i1', n0', n3', n1', n2', a2', a1', a0', n4', Nat.reduceAdd, z0', n5', sa0, sa1, sa2, sa3, sa4, sa5, sa6, sa7, sa8, sa9, sa10, sa11]
        refine tassign ?_
        simp only [pu', p0', c1', c0', i1', z0', b8_nat]
        refine tassign ?_
        simp only [pu', p0', c1', c0', i1', z0', b8_nat]
        with_reducible refine t_end ?_
        with_reducible refine s_then ?_
        with_reducible refine s_ret ?_
        rotate_left 1
        replace hb := dF' hb
        (exfalso; omega)
        replace hb := dF' hb
        (exfalso; omega)
      all_goals try with_reducible refine w_n ?_
      all_goals refine w_4 rfl (by first | exact v_t (by rfl) | exact v_c1 (C1.p) (by rfl) (HA.p) (by rfl) | exact v_cF (CA.p) (by rfl) (HA.p) (by rfl)) (by first | exact v_t (by rfl) | exact v_c1 (C1.p) (by rfl) (HA.p) (by rfl) | exact v_cF (CA.p) (by rfl) (HA.p) (by rfl)) (by first | exact v_t (by rfl) | exact v_c1 (C1.p) (by rfl) (HA.p) (by rfl) | exact v_cF (CA.p) (by rfl) (HA.p) (by rfl)) (by first | exact v_t (by rfl) | exact v_c1 (C1.p) (by rfl) (HA.p) (by rfl) | exact v_cF (CA.p) (by rfl) (HA.p) (by rfl)) ?_
      exact ⟨[], nilS, ext_app _ _, rfl, .inl ⟨rfl, rfl⟩, fun i hi => (by cases hi), tight_nil, fun s' h2 hh => ⟨s', rfl, hh⟩⟩
    · simp only [Fr.put, List.set_cons_succ, List.set_cons_zero, Int.toNat_natCast, List.length_append, List.length_set, List.length_cons, List.length_nil, List.nil_append, List.cons_append, List.append_assoc, List.length_replicate, Nat.reduceAdd, Nat.zero_add, Nat.add_assoc, sa0, sa1, sa2, sa3, sa4, sa5, sa6, sa7, sa8, sa9, sa10, sa11]
      have st := fun (a1 : 0 ≤ j) => step_any (H := h) (l := l) (j := j) (d := d) (at' := j) (z := 0) (c := c) (u := u) (x1 := .cells [I 0, I 0] 53 true) a1 (by omega) (hk.2.2.2.2.2 a1).1 (hk.2.2.2.2.2 a1).2.1 (hrg _ (by omega)).2
      simp only [hu, if_true, if_false] at st
      focus
        first
          | refine sstore1 ?_
            simp only [pu', p0', c1', c0', i1', n0', n3', n1', n2', a2', a1', a0', n4', Nat.reduceAdd, z0', n5', sa0, sa1, sa2, sa3, sa4, sa5, sa6, sa7, sa8, sa9, sa10, sa11]
            with_reducible refine s_end ?_
            with_reducible refine s_then ?_
            with_reducible refine s_seq ?_
            with_reducible refine s_reg ?_
            refine sfad ?_
            simp only [pu', p0', c1', c0', i1', z0', b8_nat]
            refine sload1 ?_
            simp only [pu', p0', c1', c0', i1', z0', b8_nat]
            refine salloc ?_
            simp only [pu', p0', c1', c0', i1', n0', n3', n1', n2', a2', a1', a0', n4', Nat.reduceAdd, z0', n5', sa0, sa1, sa2, sa3, sa4, sa5, sa6, sa7, sa8, sa9, sa10, sa11]
            refine salloc ?_
            simp only [pu', p0', c1', c0', i1', n0', n3', n1', n2', a2', a1', a0', n4', Nat.reduceAdd, z0', n5', sa0, sa1, sa2, sa3, sa4, sa5, sa6, sa7, sa8, sa9, sa10, sa11]
            refine sstore1 ?_
            simp only [pu', p0', c1', c0', i1', n0', n3', n1', n2', a2', a1', a0', n4', Nat.reduceAdd, z0', n5', sa0, sa1, sa2, sa3, sa4, sa5, sa6, sa7, sa8, sa9, sa10, sa11]
            refine sstore1 ?_
            simp only [pu', p0', c1', c0', i1', n0', n3', n1', n2', a2', a1', a0', n4', Nat.reduceAdd, z0', n5', sa0, sa1, sa2, sa3, sa4, sa5, sa6, sa7, sa8, sa9, sa10, sa11]
            with_reducible refine s_end ?_
            with_reducible refine s_then ?_
            with_reducible refine s_seq ?_
            with_reducible refine s_seq ?_
            with_reducible refine s_reg ?_
            refine sload1 ?_
            simp only [pu', p0', c1', c0', i1', z0', b8_nat]
            refine sLt (fun hb => ?_) (fun hb => ?_)
            replace hb := dT' hb
            simp only [pu', p0', c1', c0', i1', z0', b8_nat]
            with_reducible refine s_end ?_
            with_reducible refine s_then ?_
            refine sCT ?_
            with_reducible refine s_reg ?_
            refine smove ?_
            simp only [pu', p0', c1', c0', i1', z0', b8_nat]
            refine sM (hx := rfl) (free_any _ _ _ (hS.ext (ext_app _ _)) hlen) ?_
            simp only [pu', p0', c1', c0', i1', z0', b8_nat]
            refine sstore1 ?_
            simp only [pu', p0', c1', c0', i1', n0', n3', n1', n2', a2', a1', a0', n4', Nat.reduceAdd, z0', n5', sa0, sa1, sa2, sa3, sa4, sa5, sa6, sa7, sa8, sa9, sa10, sa11]
            with_reducible refine s_end ?_
            with_reducible refine s_then ?_
            with_reducible refine s_seq ?_
            with_reducible refine s_reg ?_
            refine sfunc4 ?_
            simp only [pu', p0', c1', c0', i1', z0', b8_nat]
            refine sassign ?_
            simp only [pu', p0', c1', c0', i1', z0', b8_nat]
            with_reducible refine s_end ?_
            with_reducible refine s_then ?_
            with_reducible refine s_seq ?_
            with_reducible refine s_reg ?_
            refine sfunc4 ?_
            simp only [pu', p0', c1', c0', i1', z0', b8_nat]
            refine sassign ?_
            simp only [pu', p0', c1', c0', i1', z0', b8_nat]
            with_reducible refine s_end ?_
            with_reducible refine s_then ?_
            with_reducible refine s_seq ?_
            with_reducible refine s_reg ?_
            refine sfunc4 ?_
            simp only [pu', p0', c1', c0', i1', z0', b8_nat]
            refine sassign ?_
            simp only [pu', p0', c1', c0', i1', z0', b8_nat]
            with_reducible refine s_end ?_
            with_reducible refine s_then ?_
            with_reducible refine s_seq ?_
            with_reducible refine s_block ?_
            with_reducible refine s_seq ?_
            with_reducible refine s_reg ?_
            refine sload1 ?_
            simp only [pu', p0', c1', c0', i1', z0', b8_nat]
            refine sLt (fun hb => ?_) (fun hb => ?_)
            replace hb := dT' hb
            simp only [pu', p0', c1', c0', i1', z0', b8_nat]
            refine sassign ?_
            simp only [pu', p0', c1', c0', i1', z0', b8_nat]
            with_reducible refine s_end ?_
            with_reducible refine s_then ?_
            refine sCT ?_
            with_reducible refine s_skip ?_
            with_reducible refine s_blkN ?_
            with_reducible refine s_then ?_
            with_reducible refine s_seq ?_
            (refine s_regT (id := 17) (.light 0 (.light 1 (.light 2 (.alt 3 [0] (.alt 4 [0, 1] (.light 5 (.light 6 (.done))) (.no)) (.no))))) [3, 4] (by kernel_rfl) (by conv => lhs; simp only [pickT, List.getElem?_cons_succ, List.getElem?_cons_zero]) ?_)
            refine tloadW ?_
            simp only [pu', p0', c1', c0', i1', z0', b8_nat]
            refine tload1 ?_
            simp only [pu', p0', c1', c0', i1', z0', b8_nat]
            refine tload1 ?_
            simp only [pu', p0', c1', c0', i1', z0', b8_nat]
            refine ustoreF ?_
            simp only [pu', p0', c1', c0', i1', n0', n3', n1', n2', a2', a1', a0', n4', Nat.reduceAdd, z0', n5', sa0, sa1, sa2, sa3, sa4, sa5, sa6, sa7, sa8, sa9, sa10, sa11]
            refine ustore1 ?_
            simp only [pu', p0', c1', c0', i1', n0', n3', n1', n2', a2', a1', a0', n4', Nat.reduceAdd, z0', n5', sa0, sa1, sa2, sa3, sa4, sa5, sa6, sa7, sa8, sa9, sa10, sa11]
            refine tassign ?_
            simp only [pu', p0', c1', c0', i1', z0', b8_nat]
            refine tassign ?_
            simp only [pu', p0', c1', c0', i1', z0', b8_nat]
            with_reducible refine t_end ?_
            with_reducible refine s_then ?_
            with_reducible refine s_ret ?_
            rotate_left 1
            replace hb := dF' hb
            simp only [pu', p0', c1', c0', i1', z0', b8_nat]
            refine sassign ?_
            simp only [pu', p0', c1', c0', i1', z0', b8_nat]
            with_reducible refine s_end ?_
            with_reducible refine s_then ?_
            refine sCF ?_
            with_reducible refine s_seq ?_
            with_reducible refine s_reg ?_
            refine smove ?_
            simp only [pu', p0', c1', c0', i1', z0', b8_nat]
            refine sassign ?_
            simp only [pu', p0', c1', c0', i1', z0', b8_nat]
            with_reducible refine s_end ?_
            with_reducible refine s_then ?_
            refine sCF ?_
            with_reducible refine s_seq ?_
            with_reducible refine s_reg ?_
            refine sfad ?_
            simp only [pu', p0', c1', c0', i1', z0', b8_nat]
            refine sload1 ?_
            simp only [pu', p0', c1', c0', i1', z0', b8_nat]
            refine sLt (fun hb => ?_) (fun hb => ?_)
            replace hb := dT' hb
            simp only [pu', p0', c1', c0', i1', z0', b8_nat]
            refine sassign ?_
            simp only [pu', p0', c1', c0', i1', z0', b8_nat]
            with_reducible refine s_end ?_
            with_reducible refine s_then ?_
            refine sCT ?_
            with_reducible refine s_reg ?_
            refine smove ?_
            simp only [pu', p0', c1', c0', i1', z0', b8_nat]
            refine sX (hx := rfl) (begin_any (H := h) (by omega) (by omega)) ?_
            simp only [pu', p0', c1', c0', i1', n0', n3', n1', n2', a2', a1', a0', n4', Nat.reduceAdd, z0', n5', sa0, sa1, sa2, sa3, sa4, sa5, sa6, sa7, sa8, sa9, sa10, sa11]
            with_reducible refine s_end ?_
            with_reducible refine s_blkN ?_
            with_reducible refine s_then ?_
            with_reducible refine s_seq ?_
            (refine s_regT (id := 17) (.light 0 (.light 1 (.light 2 (.alt 3 [0] (.alt 4 [0, 1] (.light 5 (.light 6 (.done))) (.no)) (.no))))) [3, 4] (by kernel_rfl) (by conv => lhs; simp only [pickT, List.getElem?_cons_succ, List.getElem?_cons_zero]) ?_)
            refine tloadW ?_
            simp only [pu', p0', c1', c0', i1', z0', b8_nat]
            refine tload1 ?_
            simp only [pu', p0', c1', c0', i1', z0', b8_nat]
            refine tload1 ?_
            simp only [pu', p0', c1', c0', i1', z0', b8_nat]
            refine ustoreF ?_
            simp only [pu', p0', c1', c0', i1', n0', n3', n1', n2', a2', a1', a0', n4', Nat.reduceAdd, z0', n5', sa0, sa1, sa2, sa3, sa4, sa5, sa6, sa7, sa8, sa9, sa10, sa11]
            refine ustore1 ?_
            simp only [pu', p0', c1', c0', i1', n0', n3', n1', n2', a2', a1', a0', n4', Nat.reduceAdd, z0', n5', sa0, sa1, sa2, sa3, sa4, sa5, sa6, sa7, sa8, sa9, sa10, sa11]
            refine tassign ?_
            simp only [pu', p0', c1', c0', i1', z0', b8_nat]
            refine tassign ?_
            simp only [pu', p0', c1', c0', i1', z0', b8_nat]
            with_reducible refine t_end ?_
            with_reducible refine s_then ?_
            with_reducible refine s_ret ?_
            rotate_left 1
            replace hb := dF' hb
            exact absurd (by with_reducible assumption) hb
            replace hb := dF' hb
            simp only [pu', p0', c1', c0', i1', z0', b8_nat]
            with_reducible refine s_end ?_
            with_reducible refine s_then ?_
            refine sCF ?_
            with_reducible refine s_skip ?_
            with_reducible refine s_then ?_
            with_reducible refine s_seq ?_
            with_reducible refine s_reg ?_
            refine sfunc4 ?_
            simp only [pu', p0', c1', c0', i1', z0', b8_nat]
            refine sassign ?_
            simp only [pu', p0', c1', c0', i1', z0', b8_nat]
            with_reducible refine s_end ?_
            with_reducible refine s_then ?_
            with_reducible refine s_seq ?_
            with_reducible refine s_reg ?_
            refine sfunc4 ?_
            simp only [pu', p0', c1', c0', i1', z0', b8_nat]
            refine sassign ?_
            simp only [pu', p0', c1', c0', i1', z0', b8_nat]
            with_reducible refine s_end ?_
            with_reducible refine s_then ?_
            with_reducible refine s_seq ?_
            with_reducible refine s_reg ?_
            refine sfunc4 ?_
            simp only [pu', p0', c1', c0', i1', z0', b8_nat]
            refine sassign ?_
            simp only [pu', p0', c1', c0', i1', z0', b8_nat]
            with_reducible refine s_end ?_
            with_reducible refine s_then ?_
            with_reducible refine s_seq ?_
            with_reducible refine s_block ?_
            with_reducible refine s_seq ?_
            with_reducible refine s_reg ?_
            refine sload1 ?_
            simp only [pu', p0', c1', c0', i1', z0', b8_nat]
            refine sLt (fun hb => ?_) (fun hb => ?_)
            replace hb := dT' hb
            (exfalso; omega)
            replace hb := dF' hb
            simp only [pu', p0', c1', c0', i1', z0', b8_nat]
            refine sassign ?_
            simp only [pu', p0', c1', c0', i1', z0', b8_nat]
            with_reducible refine s_end ?_
            with_reducible refine s_then ?_
            refine sCF ?_
            with_reducible refine s_seq ?_
            with_reducible refine s_reg ?_
            refine smove ?_
            simp only [pu', p0', c1', c0', i1', z0', b8_nat]
            refine sassign ?_
            simp only [pu', p0', c1', c0', i1', z0', b8_nat]
            with_reducible refine s_end ?_
            with_reducible refine s_then ?_
            refine sCF ?_
            with_reducible refine s_seq ?_
            with_reducible refine s_reg ?_
            refine sfad ?_
            simp only [pu', p0', c1', c0', i1', z0', b8_nat]
            refine sload1 ?_
            simp only [pu', p0', c1', c0', i1', z0', b8_nat]
            refine sLt (fun hb => ?_) (fun hb => ?_)
            replace hb := dT' hb
            (exfalso; omega)
            replace hb := dF' hb
            simp only [pu', p0', c1', c0', i1', z0', b8_nat]
            refine sassign ?_
            simp only [pu', p0', c1', c0', i1', z0', b8_nat]
            with_reducible refine s_end ?_
            with_reducible refine s_then ?_
            refine sCF ?_
            with_reducible refine s_reg ?_
            refine smove ?_
            simp only [pu', p0', c1', c0', i1', z0', b8_nat]
            refine sX (hx := rfl) (st (by omega)) ?_
            simp only [pu', p0', c1', c0', i1', n0', n3', n1', n2', a2', a1', a0', n4', Nat.reduceAdd, z0', n5', sa0, sa1, sa2, sa3, sa4, sa5, sa6, sa7, sa8, sa9, sa10, sa11]
            with_reducible refine s_end ?_
            with_reducible refine s_blkN ?_
            with_reducible refine s_then ?_
            with_reducible refine s_seq ?_
            (refine s_regT (id := 17) (.light 0 (.light 1 (.light 2 (.alt 3 [0] (.alt 4 [0, 1] (.light 5 (.light 6 (.done))) (.no)) (.no))))) [3, 4] (by kernel_rfl) (by conv => lhs; simp only [pickT, List.getElem?_cons_succ, List.getElem?_cons_zero]) ?_)
            refine tloadW ?_
            simp only [pu', p0', c1', c0', i1', z0', b8_nat]
            refine tload1 ?_
            simp only [pu', p0', c1', c0', i1', z0', b8_nat]
            refine tload1 ?_
            simp only [pu', p0', c1', c0', i1', z0', b8_nat]
            refine ustoreF ?_
            simp only [pu', p0', c1', c0', i1', n0', n3', n1', n2', a2', a1', a0', n4', Nat.reduceAdd, z0', n5', sa0, sa1, sa2, sa3, sa4, sa5, sa6, sa7, sa8, sa9, sa10, sa11]
            refine ustore1 ?_
            simp only [pu', p0', c1', c0', i1', n0', n3', n1', n2', a2', a1', a0', n4', Nat.reduceAdd, z0', n5', sa0, sa1, sa2, sa3, sa4, sa5, sa6, sa7, sa8, sa9, sa10, sa11]
            refine tassign ?_
            simp only [pu', p0', c1', c0', i1', z0', b8_nat]
            refine tassign ?_
            simp only [pu', p0', c1', c0', i1', z0', b8_nat]
            with_reducible refine t_end ?_
            with_reducible refine s_then ?_
            with_reducible refine s_ret ?_
            rotate_left 1
          | refine sstore1 ?_
            simp only [pu', p0', c1', c0', i1', n0', n3', n1', n2', a2', a1', a0', n4', Nat.reduceAdd, z0', n5', sa0, sa1, sa2, sa3, sa4, sa5, sa6, sa7, sa8, sa9, sa10, sa11]
            with_reducible refine s_end ?_
            with_reducible refine s_then ?_
            with_reducible refine s_seq ?_
            with_reducible refine s_reg ?_
            refine sfad ?_
            simp only [pu', p0', c1', c0', i1', z0', b8_nat]
            refine sload1 ?_
            simp only [pu', p0', c1', c0', i1', z0', b8_nat]
            refine salloc ?_
            simp only [pu', p0', c1', c0', i1', n0', n3', n1', n2', a2', a1', a0', n4', Nat.reduceAdd, z0', n5', sa0, sa1, sa2, sa3, sa4, sa5, sa6, sa7, sa8, sa9, sa10, sa11]
            refine salloc ?_
            simp only [pu', p0', c1', c0', i1', n0', n3', n1', n2', a2', a1', a0', n4', Nat.reduceAdd, z0', n5', sa0, sa1, sa2, sa3, sa4, sa5, sa6, sa7, sa8, sa9, sa10, sa11]
            refine sstore1 ?_
            simp only [pu', p0', c1', c0', i1', n0', n3', n1', n2', a2', a1', a0', n4', Nat.reduceAdd, z0', n5', sa0, sa1, sa2, sa3, sa4, sa5, sa6, sa7, sa8, sa9, sa10, sa11]
            refine sstore1 ?_
            simp only [pu', p0', c1', c0', i1', n0', n3', n1', n2', a2', a1', a0', n4', Nat.reduceAdd, z0', n5', sa0, sa1, sa2, sa3, sa4, sa5, sa6, sa7, sa8, sa9, sa10, sa11]
            with_reducible refine s_end ?_
            with_reducible refine s_then ?_
            with_reducible refine s_seq ?_
            with_reducible refine s_seq ?_
            with_reducible refine s_reg ?_
            refine sload1 ?_
            simp only [pu', p0', c1', c0', i1', z0', b8_nat]
            refine sLt (fun hb => ?_) (fun hb => ?_)
            replace hb := dT' hb
            simp only [pu', p0', c1', c0', i1', z0', b8_nat]
            with_reducible refine s_end ?_
            with_reducible refine s_then ?_
            refine sCT ?_
            with_reducible refine s_reg ?_
            refine smove ?_
            simp only [pu', p0', c1', c0', i1', z0', b8_nat]
            refine sM (hx := rfl) (free_any _ _ _ (hS.ext (ext_app _ _)) hlen) ?_
            simp only [pu', p0', c1', c0', i1', z0', b8_nat]
            refine sstore1 ?_
            simp only [pu', p0', c1', c0', i1', n0', n3', n1', n2', a2', a1', a0', n4', Nat.reduceAdd, z0', n5', sa0, sa1, sa2, sa3, sa4, sa5, sa6, sa7, sa8, sa9, sa10, sa11]
            with_reducible refine s_end ?_
            with_reducible refine s_then ?_
            with_reducible refine s_seq ?_
            with_reducible refine s_reg ?_
            refine sfunc4 ?_
            simp only [pu', p0', c1', c0', i1', z0', b8_nat]
            refine sassign ?_
            simp only [pu', p0', c1', c0', i1', z0', b8_nat]
            with_reducible refine s_end ?_
            with_reducible refine s_then ?_
            with_reducible refine s_seq ?_
            with_reducible refine s_reg ?_
            refine sfunc4 ?_
            simp only [pu', p0', c1', c0', i1', z0', b8_nat]
            refine sassign ?_
            simp only [pu', p0', c1', c0', i1', z0', b8_nat]
            with_reducible refine s_end ?_
            with_reducible refine s_then ?_
            with_reducible refine s_seq ?_
            with_reducible refine s_reg ?_
            refine sfunc4 ?_
            simp only [pu', p0', c1', c0', i1', z0', b8_nat]
            refine sassign ?_
            simp only [pu', p0', c1', c0', i1', z0', b8_nat]
            with_reducible refine s_end ?_
            with_reducible refine s_then ?_
            with_reducible refine s_seq ?_
            with_reducible refine s_block ?_
            with_reducible refine s_seq ?_
            with_reducible refine s_reg ?_
            refine sload1 ?_
            simp only [pu', p0', c1', c0', i1', z0', b8_nat]
            refine sLt (fun hb => ?_) (fun hb => ?_)
            replace hb := dT' hb
            simp only [pu', p0', c1', c0', i1', z0', b8_nat]
            refine sassign ?_
            simp only [pu', p0', c1', c0', i1', z0', b8_nat]
            with_reducible refine s_end ?_
            with_reducible refine s_then ?_
            refine sCT ?_
            with_reducible refine s_skip ?_
            with_reducible refine s_blkN ?_
            with_reducible refine s_then ?_
            with_reducible refine s_seq ?_
            (refine s_regT (id := 17) (.light 0 (.light 1 (.light 2 (.alt 3 [0] (.alt 4 [0, 1] (.light 5 (.light 6 (.done))) (.no)) (.no))))) [3, 4] (by kernel_rfl) (by conv => lhs; simp only [pickT, List.getElem?_cons_succ, List.getElem?_cons_zero]) ?_)
            refine tloadW ?_
            simp only [pu', p0', c1', c0', i1', z0', b8_nat]
            refine tload1 ?_
            simp only [pu', p0', c1', c0', i1', z0', b8_nat]
            refine tload1 ?_
            simp only [pu', p0', c1', c0', i1', z0', b8_nat]
            refine ustoreF ?_
            simp only [pu', p0', c1', c0', i1', n0', n3', n1', n2', a2', a1', a0', n4', Nat.reduceAdd, z0', n5', sa0, sa1, sa2, sa3, sa4, sa5, sa6, sa7, sa8, sa9, sa10, sa11]
            refine ustore1 ?_
            simp only [pu', p0', c1', c0', i1', n0', n3', n1', n2', a2', a1', a0', n4', Nat.reduceAdd, z0', n5', sa0, sa1, sa2, sa3, sa4, sa5, sa6, sa7, sa8, sa9, sa10, sa11]
            refine tassign ?_
            simp only [pu', p0', c1', c0', i1', z0', b8_nat]
            refine tassign ?_
            simp only [pu', p0', c1', c0', i1', z0', b8_nat]
            with_reducible refine t_end ?_
            with_reducible refine s_then ?_
            with_reducible refine s_ret ?_
            rotate_left 1
            replace hb := dF' hb
            simp only [pu', p0', c1', c0', i1', z0', b8_nat]
            refine sassign ?_
            simp only [pu', p0', c1', c0', i1', z0', b8_nat]
            with_reducible refine s_end ?_
            with_reducible refine s_then ?_
            refine sCF ?_
            with_reducible refine s_seq ?_
            with_reducible refine s_reg ?_
            refine smove ?_
            simp only [pu', p0', c1', c0', i1', z0', b8_nat]
            refine sassign ?_
            simp only [pu', p0', c1', c0', i1', z0', b8_nat]
            with_reducible refine s_end ?_
            with_reducible refine s_then ?_
            refine sCT ?_
            with_reducible refine s_reg ?_
            refine smove ?_
            simp only [pu', p0', c1', c0', i1', z0', b8_nat]
            refine sX (hx := rfl) (lose_any (H := h) (by omega) (by omega) (hrgA _ (by omega))) ?_
            simp only [pu', p0', c1', c0', i1', n0', n3', n1', n2', a2', a1', a0', n4', Nat.reduceAdd, z0', n5', sa0, sa1, sa2, sa3, sa4, sa5, sa6, sa7, sa8, sa9, sa10, sa11]
            with_reducible refine s_end ?_
            with_reducible refine s_blkN ?_
            with_reducible refine s_then ?_
            with_reducible refine s_seq ?_
            (refine s_regT (id := 17) (.light 0 (.light 1 (.light 2 (.alt 3 [0] (.alt 4 [0, 1] (.light 5 (.light 6 (.done))) (.no)) (.no))))) [3, 4] (by kernel_rfl) (by conv => lhs; simp only [pickT, List.getElem?_cons_succ, List.getElem?_cons_zero]) ?_)
            refine tloadW ?_
            simp only [pu', p0', c1', c0', i1', z0', b8_nat]
            refine tload1 ?_
            simp only [pu', p0', c1', c0', i1', z0', b8_nat]
            refine tload1 ?_
            simp only [pu', p0', c1', c0', i1', z0', b8_nat]
            refine ustoreF ?_
            simp only [pu', p0', c1', c0', i1', n0', n3', n1', n2', a2', a1', a0', n4', Nat.reduceAdd, z0', n5', sa0, sa1, sa2, sa3, sa4, sa5, sa6, sa7, sa8, sa9, sa10, sa11]
            refine ustore1 ?_
            simp only [pu', p0', c1', c0', i1', n0', n3', n1', n2', a2', a1', a0', n4', Nat.reduceAdd, z0', n5', sa0, sa1, sa2, sa3, sa4, sa5, sa6, sa7, sa8, sa9, sa10, sa11]
            refine tassign ?_
            simp only [pu', p0', c1', c0', i1', z0', b8_nat]
            refine tassign ?_
            simp only [pu', p0', c1', c0', i1', z0', b8_nat]
            with_reducible refine t_end ?_
            with_reducible refine s_then ?_
            with_reducible refine s_ret ?_
            rotate_left 1
            replace hb := dF' hb
            simp only [pu', p0', c1', c0', i1', z0', b8_nat]
            with_reducible refine s_end ?_
            with_reducible refine s_then ?_
            refine sCF ?_
            with_reducible refine s_skip ?_
            with_reducible refine s_then ?_
            with_reducible refine s_seq ?_
            with_reducible refine s_reg ?_
            refine sfunc4 ?_
            simp only [pu', p0', c1', c0', i1', z0', b8_nat]
            refine sassign ?_
            simp only [pu', p0', c1', c0', i1', z0', b8_nat]
            with_reducible refine s_end ?_
            with_reducible refine s_then ?_
            with_reducible refine s_seq ?_
            with_reducible refine s_reg ?_
            refine sfunc4 ?_
            simp only [pu', p0', c1', c0', i1', z0', b8_nat]
            refine sassign ?_
            simp only [pu', p0', c1', c0', i1', z0', b8_nat]
            with_reducible refine s_end ?_
            with_reducible refine s_then ?_
            with_reducible refine s_seq ?_
            with_reducible refine s_reg ?_
            refine sfunc4 ?_
            simp only [pu', p0', c1', c0', i1', z0', b8_nat]
            refine sassign ?_
            simp only [pu', p0', c1', c0', i1', z0', b8_nat]
            with_reducible refine s_end ?_
            with_reducible refine s_then ?_
            with_reducible refine s_seq ?_
            with_reducible refine s_block ?_
            with_reducible refine s_seq ?_
            with_reducible refine s_reg ?_
            refine sload1 ?_
            simp only [pu', p0', c1', c0', i1', z0', b8_nat]
            refine sLt (fun hb => ?_) (fun hb => ?_)
            replace hb := dT' hb
            (exfalso; omega)
            replace hb := dF' hb
            simp only [pu', p0', c1', c0', i1', z0', b8_nat]
            refine sassign ?_
            simp only [pu', p0', c1', c0', i1', z0', b8_nat]
            with_reducible refine s_end ?_
            with_reducible refine s_then ?_
            refine sCF ?_
            with_reducible refine s_seq ?_
            with_reducible refine s_reg ?_
            refine smove ?_
            simp only [pu', p0', c1', c0', i1', z0', b8_nat]
            refine sassign ?_
            simp only [pu', p0', c1', c0', i1', z0', b8_nat]
            with_reducible refine s_end ?_
            with_reducible refine s_then ?_
            refine sCT ?_
            with_reducible refine s_reg ?_
            refine smove ?_
            simp only [pu', p0', c1', c0', i1', z0', b8_nat]
            refine sX (hx := rfl) (lose_any (H := h) (by omega) (by omega) (hrgA _ (by omega))) ?_
            simp only [pu', p0', c1', c0', i1', n0', n3', n1', n2', a2', a1', a0', n4', Nat.reduceAdd, z0', n5', sa0, sa1, sa2, sa3, sa4, sa5, sa6, sa7, sa8, sa9, sa10, sa11]
            with_reducible refine s_end ?_
            with_reducible refine s_blkN ?_
            with_reducible refine s_then ?_
            with_reducible refine s_seq ?_
            (refine s_regT (id := 17) (.light 0 (.light 1 (.light 2 (.alt 3 [0] (.alt 4 [0, 1] (.light 5 (.light 6 (.done))) (.no)) (.no))))) [3, 4] (by kernel_rfl) (by conv => lhs; simp only [pickT, List.getElem?_cons_succ, List.getElem?_cons_zero]) ?_)
            refine tloadW ?_
            simp only [pu', p0', c1', c0', i1', z0', b8_nat]
            refine tload1 ?_
            simp only [pu', p0', c1', c0', i1', z0', b8_nat]
            refine tload1 ?_
            simp only [pu', p0', c1', c0', i1', z0', b8_nat]
            refine ustoreF ?_
            simp only [pu', p0', c1', c0', i1', n0', n3', n1', n2', a2', a1', a0', n4', Nat.reduceAdd, z0', n5', sa0, sa1, sa2, sa3, sa4, sa5, sa6, sa7, sa8, sa9, sa10, sa11]
            refine ustore1 ?_
            simp only [pu', p0', c1', c0', i1', n0', n3', n1', n2', a2', a1', a0', n4', Nat.reduceAdd, z0', n5', sa0, sa1, sa2, sa3, sa4, sa5, sa6, sa7, sa8, sa9, sa10, sa11]
            refine tassign ?_
            simp only [pu', p0', c1', c0', i1', z0', b8_nat]
            refine tassign ?_
            simp only [pu', p0', c1', c0', i1', z0', b8_nat]
            with_reducible refine t_end ?_
            with_reducible refine s_then ?_
            with_reducible refine s_ret ?_
            rotate_left 1
      all_goals
        first
          | (have hp : pickP j d l true = ⟨-1, 0, l.set j.toNat (failT (l.getD j.toNat tk0)), 4, 0⟩ := by rw [hup true, hat2 (by omega), if_neg (by omega), if_pos rfl]
             rw [hp]
             ((try with_reducible refine w_n ?_); refine w_4 rfl (by first | exact v_t (by rfl) | exact v_c1 (C1.p) (by rfl) (HA.p) (by rfl) | exact v_cF (CA.p) (by rfl) (HA.p) (by rfl)) (by first | exact v_t (by rfl) | exact v_c1 (C1.p) (by rfl) (HA.p) (by rfl) | exact v_cF (CA.p) (by rfl) (HA.p) (by rfl)) (by first | exact v_t (by rfl) | exact v_c1 (C1.p) (by rfl) (HA.p) (by rfl) | exact v_cF (CA.p) (by rfl) (HA.p) (by rfl)) (by first | exact v_t (by rfl) | exact v_c1 (C1.p) (by rfl) (HA.p) (by rfl) | exact v_cF (CA.p) (by rfl) (HA.p) (by rfl)) ?_)
             exact ⟨_, _, ext_app _ _, rfl, own_pk hc1 hc2 (by rw [List.length_set]) (by first | with_reducible exact ga0 | with_reducible exact ga1 | with_reducible exact ga2 | with_reducible exact ga3 | with_reducible exact ga4 | with_reducible exact ga5 | with_reducible exact ga6 | with_reducible exact ga7 | with_reducible assumption | rfl), fun i hi => (by injection hi with hi; omega), tg hc2, fun s' h2 hh => ⟨s', rfl, hh⟩⟩)
          | (have hp : pickP j d l false = ⟨-1, 0, l.set j.toNat (overT (l.getD j.toNat tk0)), 3, 0⟩ := by rw [hup false, hat2 (by omega), if_neg (by omega), if_neg (by simp), if_neg (by omega), if_pos (by omega)]
             rw [hp]
             ((try with_reducible refine w_n ?_); refine w_4 rfl (by first | exact v_t (by rfl) | exact v_c1 (C1.p) (by rfl) (HA.p) (by rfl) | exact v_cF (CA.p) (by rfl) (HA.p) (by rfl)) (by first | exact v_t (by rfl) | exact v_c1 (C1.p) (by rfl) (HA.p) (by rfl) | exact v_cF (CA.p) (by rfl) (HA.p) (by rfl)) (by first | exact v_t (by rfl) | exact v_c1 (C1.p) (by rfl) (HA.p) (by rfl) | exact v_cF (CA.p) (by rfl) (HA.p) (by rfl)) (by first | exact v_t (by rfl) | exact v_c1 (C1.p) (by rfl) (HA.p) (by rfl) | exact v_cF (CA.p) (by rfl) (HA.p) (by rfl)) ?_)
             exact ⟨_, _, ext_app _ _, rfl, own_pk hc1 hc2 (by rw [List.length_set]) (by first | with_reducible exact ga0 | with_reducible exact ga1 | with_reducible exact ga2 | with_reducible exact ga3 | with_reducible exact ga4 | with_reducible exact ga5 | with_reducible exact ga6 | with_reducible exact ga7 | with_reducible assumption | rfl), fun i hi => (by injection hi with hi; omega), tg hc2, fun s' h2 hh => ⟨s', rfl, hh⟩⟩)
          | (have hp : pickP j d l false = ⟨j, d + 1, l, 2, 0⟩ := by rw [hup false, hat2 (by omega), if_neg (by omega), if_neg (by simp), if_neg (by omega), if_neg (by omega)]
             rw [hp]
             ((try with_reducible refine w_n ?_); refine w_4 rfl (by first | exact v_t (by rfl) | exact v_c1 (C1.p) (by rfl) (HA.p) (by rfl) | exact v_cF (CA.p) (by rfl) (HA.p) (by rfl)) (by first | exact v_t (by rfl) | exact v_c1 (C1.p) (by rfl) (HA.p) (by rfl) | exact v_cF (CA.p) (by rfl) (HA.p) (by rfl)) (by first | exact v_t (by rfl) | exact v_c1 (C1.p) (by rfl) (HA.p) (by rfl) | exact v_cF (CA.p) (by rfl) (HA.p) (by rfl)) (by first | exact v_t (by rfl) | exact v_c1 (C1.p) (by rfl) (HA.p) (by rfl) | exact v_cF (CA.p) (by rfl) (HA.p) (by rfl)) ?_)
             exact ⟨l, _, ext_app _ _, rfl, own_pk hc1 hc2 rfl (by first | with_reducible exact ga0 | with_reducible exact ga1 | with_reducible exact ga2 | with_reducible exact ga3 | with_reducible exact ga4 | with_reducible exact ga5 | with_reducible exact ga6 | with_reducible exact ga7 | with_reducible assumption | rfl), fun i hi => (by injection hi with hi; omega), tg hc2, fun s' h2 hh => ⟨s', rfl, hh⟩⟩)
          | (have hp : pickP j d l true = ⟨j, d, l, 0, 0⟩ := by rw [hup true, hat1 (by omega), if_pos (by omega)]
             rw [hp]
             ((try with_reducible refine w_n ?_); refine w_4 rfl (by first | exact v_t (by rfl) | exact v_c1 (C1.p) (by rfl) (HA.p) (by rfl) | exact v_cF (CA.p) (by rfl) (HA.p) (by rfl)) (by first | exact v_t (by rfl) | exact v_c1 (C1.p) (by rfl) (HA.p) (by rfl) | exact v_cF (CA.p) (by rfl) (HA.p) (by rfl)) (by first | exact v_t (by rfl) | exact v_c1 (C1.p) (by rfl) (HA.p) (by rfl) | exact v_cF (CA.p) (by rfl) (HA.p) (by rfl)) (by first | exact v_t (by rfl) | exact v_c1 (C1.p) (by rfl) (HA.p) (by rfl) | exact v_cF (CA.p) (by rfl) (HA.p) (by rfl)) ?_)
             exact ⟨l, _, ext_app _ _, rfl, own_pk hc1 hc2 rfl (by first | with_reducible exact ga0 | with_reducible exact ga1 | with_reducible exact ga2 | with_reducible exact ga3 | with_reducible exact ga4 | with_reducible exact ga5 | with_reducible exact ga6 | with_reducible exact ga7 | with_reducible assumption | rfl), fun i hi => (by injection hi with hi; omega), tg hc2, fun s' h2 hh => ⟨s', rfl, hh⟩⟩)
          | (have hp : pickP j d l false = ⟨j, d, l, 0, 0⟩ := by rw [hup false, hat1 (by omega), if_pos (by omega)]
             rw [hp]
             ((try with_reducible refine w_n ?_); refine w_4 rfl (by first | exact v_t (by rfl) | exact v_c1 (C1.p) (by rfl) (HA.p) (by rfl) | exact v_cF (CA.p) (by rfl) (HA.p) (by rfl)) (by first | exact v_t (by rfl) | exact v_c1 (C1.p) (by rfl) (HA.p) (by rfl) | exact v_cF (CA.p) (by rfl) (HA.p) (by rfl)) (by first | exact v_t (by rfl) | exact v_c1 (C1.p) (by rfl) (HA.p) (by rfl) | exact v_cF (CA.p) (by rfl) (HA.p) (by rfl)) (by first | exact v_t (by rfl) | exact v_c1 (C1.p) (by rfl) (HA.p) (by rfl) | exact v_cF (CA.p) (by rfl) (HA.p) (by rfl)) ?_)
             exact ⟨l, _, ext_app _ _, rfl, own_pk hc1 hc2 rfl (by first | with_reducible exact ga0 | with_reducible exact ga1 | with_reducible exact ga2 | with_reducible exact ga3 | with_reducible exact ga4 | with_reducible exact ga5 | with_reducible exact ga6 | with_reducible exact ga7 | with_reducible assumption | rfl), fun i hi => (by injection hi with hi; omega), tg hc2, fun s' h2 hh => ⟨s', rfl, hh⟩⟩)
          | (have hp : pickP j d l true = ⟨-1, 0, l.set (fr l 0).toNat (failT (l.getD (fr l 0).toNat tk0)), 4, 0⟩ := by rw [hup true, hat1 (by omega), if_neg (by omega), if_pos rfl]
             rw [hp]
             ((try with_reducible refine w_n ?_); refine w_4 rfl (by first | exact v_t (by rfl) | exact v_c1 (C1.p) (by rfl) (HA.p) (by rfl) | exact v_cF (CA.p) (by rfl) (HA.p) (by rfl)) (by first | exact v_t (by rfl) | exact v_c1 (C1.p) (by rfl) (HA.p) (by rfl) | exact v_cF (CA.p) (by rfl) (HA.p) (by rfl)) (by first | exact v_t (by rfl) | exact v_c1 (C1.p) (by rfl) (HA.p) (by rfl) | exact v_cF (CA.p) (by rfl) (HA.p) (by rfl)) (by first | exact v_t (by rfl) | exact v_c1 (C1.p) (by rfl) (HA.p) (by rfl) | exact v_cF (CA.p) (by rfl) (HA.p) (by rfl)) ?_)
             exact ⟨_, _, ext_app _ _, rfl, own_pk hc1 hc2 (by rw [List.length_set]) (by first | with_reducible exact ga0 | with_reducible exact ga1 | with_reducible exact ga2 | with_reducible exact ga3 | with_reducible exact ga4 | with_reducible exact ga5 | with_reducible exact ga6 | with_reducible exact ga7 | with_reducible assumption | rfl), fun i hi => (by injection hi with hi; omega), tg hc2, fun s' h2 hh => ⟨s', rfl, hh⟩⟩)
          | (have hp : pickP j d l false = ⟨fr l 0, 0, l.set (fr l 0).toNat (beginT (l.getD (fr l 0).toNat tk0)), 1, 0⟩ := by rw [hup false, hat1 (by omega), if_neg (by omega), if_neg (by simp), if_pos (by omega)]
             rw [hp]
             ((try with_reducible refine w_n ?_); refine w_4 rfl (by first | exact v_t (by rfl) | exact v_c1 (C1.p) (by rfl) (HA.p) (by rfl) | exact v_cF (CA.p) (by rfl) (HA.p) (by rfl)) (by first | exact v_t (by rfl) | exact v_c1 (C1.p) (by rfl) (HA.p) (by rfl) | exact v_cF (CA.p) (by rfl) (HA.p) (by rfl)) (by first | exact v_t (by rfl) | exact v_c1 (C1.p) (by rfl) (HA.p) (by rfl) | exact v_cF (CA.p) (by rfl) (HA.p) (by rfl)) (by first | exact v_t (by rfl) | exact v_c1 (C1.p) (by rfl) (HA.p) (by rfl) | exact v_cF (CA.p) (by rfl) (HA.p) (by rfl)) ?_)
             exact ⟨_, _, ext_app _ _, rfl, own_pk hc1 hc2 (by rw [List.length_set]) (by first | with_reducible exact ga0 | with_reducible exact ga1 | with_reducible exact ga2 | with_reducible exact ga3 | with_reducible exact ga4 | with_reducible exact ga5 | with_reducible exact ga6 | with_reducible exact ga7 | with_reducible assumption | rfl), fun i hi => (by injection hi with hi; omega), tg hc2, fun s' h2 hh => ⟨s', rfl, hh⟩⟩)
end
end Go.Proofs.Ytfcgmkpihmiadaa
