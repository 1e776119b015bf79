/-
  A part of the proof of a statement of a chapter's seat; conditions: stated at each theorem.
-/
import Derived.Test.YtckljanplahbkaaM3
set_option linter.unusedSimpArgs false
set_option linter.unusedVariables false
set_option linter.unusedSectionVars false
set_option maxRecDepth 100000
set_option maxHeartbeats 4000000
namespace Go.Proofs.Ytckljanplahbkaa
open Go.Az Go
theorem ret_all {e : TypeId} {h h' : Hp} {l : List Int} {s : AV} (hR : RetS (encI .i64) e h l s h') : ∀ i, objOf s = some i → i = h.length := by
  intro i hi
  rcases hR with ⟨rfl, hl, rfl⟩ | ⟨c, u, rfl, rfl, hc1, hc2⟩
  · cases hi
  · injection hi with hi; exact hi.symm
theorem trn_snoc (m : Int) (l : List Int) (i : Nat) (h : i < l.length) : trn m (l.take (i + 1)) = trn m (l.take i) ++ [if l.getD i 0 = 0 then 0 else m + 1 - l.getD i 0] := by
  rw [takeT (d := (0:Int)) h]; simp [trn]
structure RW where
  i : Nat
  z : AV
  H : Hp
theorem rweights_any (h : Hp) (s : AV) (l : List Int) (hS : TI h s l) : ACalls Try.prog 13 [s] h (fun r h' => ∃ s', r = .tup [s', I (chkW l)] ∧ RetS (encI .i64) 3 h (wtL l) s' h') := by
  refine ret_own (e := 3) iok ipp (fun s => .tup [s, I (chkW l)]) (fun _ _ => rfl) (fun n s h => by simp [AV.sc, AV.scs, h]) ?_
  by_cases hc : chkW l = 0
  case neg =>
    refine acalls_of_wk hm Try.func13 rfl ?_
    simp only [Try.ntmps13, List.length_cons, List.length_nil, Nat.reduceAdd, Nat.reduceSub, List.reduceReplicate, List.cons_append, List.nil_append]
    show wk _ _ none _ _ ⟨_, []⟩ _
    focus
      with_reducible refine s_seq ?_
      with_reducible refine s_reg ?_
      refine sassign ?_
      simp only [pu', p0', c1', c0', i1', z0', b8_nat]
      refine sassign ?_
      simp only [pu', p0', c1', c0', i1', z0', b8_nat]
      with_reducible refine s_end ?_
      with_reducible refine s_then ?_
      with_reducible refine s_seq ?_
      with_reducible refine s_reg ?_
      refine smove ?_
      simp only [pu', p0', c1', c0', i1', z0', b8_nat]
      refine sM (hx := rfl) (rcheck_any _ _ _ hS) ?_
      simp only [pu', p0', c1', c0', i1', z0', b8_nat]
      refine sassign ?_
      simp only [pu', p0', c1', c0', i1', z0', b8_nat]
      with_reducible refine s_end ?_
      with_reducible refine s_then ?_
      with_reducible refine s_seq ?_
      with_reducible refine s_seq ?_
      with_reducible refine s_reg ?_
      refine smove ?_
      simp only [pu', p0', c1', c0', i1', z0', b8_nat]
      refine sNe (fun hb => ?_) (fun hb => ?_)
      replace hb := dT' hb
      simp only [pu', p0', c1', c0', i1', z0', b8_nat]
      with_reducible refine s_end ?_
      with_reducible refine s_then ?_
      refine sCT ?_
      with_reducible refine s_seq ?_
      with_reducible refine s_reg ?_
      refine smove ?_
      simp only [pu', p0', c1', c0', i1', z0', b8_nat]
      refine sassign ?_
      simp only [pu', p0', c1', c0', i1', z0', b8_nat]
      refine sassign ?_
      simp only [pu', p0', c1', c0', i1', z0', b8_nat]
      with_reducible refine s_end ?_
      with_reducible refine s_then ?_
      with_reducible refine s_ret ?_
      with_reducible refine s_thenR ?_
      rotate_left 1
      replace hb := dF' hb
      exact absurd (by with_reducible assumption) hb
    all_goals try with_reducible refine w_n ?_
    all_goals refine w_2 rfl (by first | exact v_t (by rfl) | exact v_c1 (C1.p) (by rfl) (HA.p) (by rfl) | exact v_cF (CA.p) (by rfl) (HA.p) (by rfl)) (by first | exact v_t (by rfl) | exact v_c1 (C1.p) (by rfl) (HA.p) (by rfl) | exact v_cF (CA.p) (by rfl) (HA.p) (by rfl)) ?_
    exact ⟨[], nilS, Ext.refl _, rfl, .inl ⟨rfl, rfl⟩, fun i hi => (by cases hi), tight_nil, fun s' h2 hh => ⟨s', rfl, by rw [wtL, if_neg hc]; exact hh⟩⟩
  obtain ⟨a1, a2, a3⟩ := cw_ok hc
  have hg := grt_bd l 11 (by omega) (fun x hx => (a3 x hx).2)
  refine acalls_of_wk hm Try.func13 rfl ?_
  simp only [Try.ntmps13, List.length_cons, List.length_nil, Nat.reduceAdd, Nat.reduceSub, List.reduceReplicate, List.cons_append, List.nil_append]
  show wk _ _ none _ _ ⟨_, []⟩ _
  have el1 := mkEL iok (0:Int) hS
  with_reducible refine s_seq ?_
  with_reducible refine s_reg ?_
  refine sassign ?_
  simp only [pu', p0', c1', c0', i1', z0', b8_nat]
  refine sassign ?_
  simp only [pu', p0', c1', c0', i1', z0', b8_nat]
  with_reducible refine s_end ?_
  with_reducible refine s_then ?_
  with_reducible refine s_seq ?_
  with_reducible refine s_reg ?_
  refine smove ?_
  simp only [pu', p0', c1', c0', i1', z0', b8_nat]
  refine sM (hx := rfl) (rcheck_any _ _ _ hS) ?_
  simp only [pu', p0', c1', c0', i1', z0', b8_nat]
  refine sassign ?_
  simp only [pu', p0', c1', c0', i1', z0', b8_nat]
  with_reducible refine s_end ?_
  with_reducible refine s_then ?_
  with_reducible refine s_seq ?_
  with_reducible refine s_seq ?_
  with_reducible refine s_reg ?_
  refine smove ?_
  simp only [pu', p0', c1', c0', i1', z0', b8_nat]
  refine sNe (fun hb => ?_) (fun hb => ?_)
  replace hb := dT' hb
  (exfalso; omega)
  replace hb := dF' hb
  simp only [pu', p0', c1', c0', i1', z0', b8_nat]
  with_reducible refine s_end ?_
  with_reducible refine s_then ?_
  refine sCF ?_
  with_reducible refine s_skip ?_
  with_reducible refine s_then ?_
  with_reducible refine s_seq ?_
  with_reducible refine s_reg ?_
  refine sassign ?_
  simp only [pu', p0', c1', c0', i1', z0', b8_nat]
  with_reducible refine s_end ?_
  with_reducible refine s_then ?_
  with_reducible refine s_seq ?_
  with_reducible refine s_seq ?_
  with_reducible refine s_reg ?_
  refine sassign ?_
  simp only [pu', p0', c1', c0', i1', z0', b8_nat]
  with_reducible refine s_end ?_
  with_reducible refine s_then ?_
  with_reducible refine s_block ?_
  refine s_loop hm (fun (b : Nat) s' => [s, s' 1, s' 2, s' 3, s' 4, I (grt (l.take b)), I b, s' 7, s' 8, s' 9, s' 10, s' 11, s' 12, s' 13, s' 14, s' 15, s' 16, s' 17, s' 18, s' 19, s' 20, s' 21, s' 22, s' 23, s' 24, s' 25, s' 26, s' 27, s' 28, s' 29, s' 30, s' 31, s' 32, s' 33, s' 34, s' 35, s' 36, s' 37, s' 38, s' 39, s' 40, s' 41, s' 42, s' 43, s' 44, s' 45, s' 46, s' 47, s' 48, s' 49, s' 50]) (fun _ => h) (fun b => b ≤ l.length) (fun b => l.length - b) 0 (by rfl) rfl (Nat.zero_le _) ?_
  intro i s' hi
  have el2 := mkEL iok (0:Int) hS
  focus
    with_reducible refine s_seq ?_
    with_reducible refine s_seq ?_
    with_reducible refine s_reg ?_
    refine smove ?_
    simp only [pu', p0', c1', c0', i1', z0', b8_nat]
    refine smove ?_
    simp only [pu', p0', c1', c0', i1', z0', b8_nat]
    refine slenE ?_
    simp only [pu', p0', c1', c0', i1', z0', b8_nat]
    refine sLt (fun hb => ?_) (fun hb => ?_)
    replace hb := dT' hb
    simp only [pu', p0', c1', c0', i1', z0', b8_nat]
    with_reducible refine s_end ?_
    with_reducible refine s_then ?_
    refine sCT ?_
    with_reducible refine s_skip ?_
    with_reducible refine s_then ?_
    with_reducible refine s_seq ?_
    with_reducible refine s_block ?_
    with_reducible refine s_reg ?_
    refine smove ?_
    simp only [pu', p0', c1', c0', i1', z0', b8_nat]
    refine smove ?_
    simp only [pu', p0', c1', c0', i1', z0', b8_nat]
    refine smove ?_
    simp only [pu', p0', c1', c0', i1', z0', b8_nat]
    refine sidxE ?_
    simp only [pu', p0', c1', c0', i1', z0', b8_nat]
    refine sloadE1 ?_
    simp only [pu', p0', c1', c0', i1', z0', b8_nat]
    refine smax ?_
    simp only [pu', p0', c1', c0', i1', z0', b8_nat]
    refine sassign ?_
    simp only [pu', p0', c1', c0', i1', z0', b8_nat]
    with_reducible refine s_end ?_
    with_reducible refine s_blkN ?_
    with_reducible refine s_then ?_
    with_reducible refine s_reg ?_
    refine smove ?_
    simp only [pu', p0', c1', c0', i1', z0', b8_nat]
    refine sadd ?_
    simp only [pu', p0', c1', c0', i1', z0', b8_nat]
    refine sassign ?_
    simp only [pu', p0', c1', c0', i1', z0', b8_nat]
    with_reducible refine s_end ?_
    rotate_left 1
    replace hb := dF' hb
    simp only [pu', p0', c1', c0', i1', z0', b8_nat]
    with_reducible refine s_end ?_
    with_reducible refine s_then ?_
    refine sCF ?_
    with_reducible refine s_exit ?_
    with_reducible refine s_thenE ?_
    with_reducible refine l_exit ?_
    with_reducible refine s_blkE ?_
    with_reducible refine s_then ?_
    with_reducible refine s_seq ?_
    with_reducible refine s_reg ?_
    refine sassign ?_
    simp only [pu', p0', c1', c0', i1', z0', b8_nat]
    with_reducible refine s_end ?_
    with_reducible refine s_then ?_
    with_reducible refine s_seq ?_
    with_reducible refine s_seq ?_
    with_reducible refine s_reg ?_
    refine sassign ?_
    simp only [pu', p0', c1', c0', i1', z0', b8_nat]
    with_reducible refine s_end ?_
    with_reducible refine s_then ?_
    with_reducible refine s_block ?_
    rotate_left 1
  · refine l_next (i + 1) (by omega) (by omega) ?_ rfl
    rw [takeT (d := (0:Int)) (by omega), grt_snoc]; rfl
  rw [List.take_of_length_le (by omega)]
  refine s_loop hm (fun (b : RW) s' => [s, s' 1, s' 2, s' 3, s' 4, I (grt l), s' 6, b.z, I b.i, s' 9, s' 10, s' 11, s' 12, s' 13, s' 14, s' 15, s' 16, s' 17, s' 18, s' 19, s' 20, s' 21, s' 22, s' 23, s' 24, s' 25, s' 26, s' 27, s' 28, s' 29, s' 30, s' 31, s' 32, s' 33, s' 34, s' 35, s' 36, s' 37, s' 38, s' 39, s' 40, s' 41, s' 42, s' 43, s' 44, s' 45, s' 46, s' 47, s' 48, s' 49, s' 50]) (fun b => b.H) (fun b => b.i ≤ l.length ∧ Ext h b.H ∧ Own (encI .i64) 1 3 b.H b.z (trn (grt l) (l.take b.i)) ∧ (∀ k, objOf b.z = some k → h.length ≤ k) ∧ Tight b.z) (fun b => l.length - b.i) ⟨0, nilS, h⟩ (by rfl) rfl ⟨Nat.zero_le _, Ext.refl _, .inl ⟨rfl, rfl⟩, fun k hk => (by cases hk), tight_nil⟩ ?_
  rintro ⟨i, z, H⟩ s'' ⟨hi, hx, hO, hz, hT⟩
  simp only [] at hi hx hO hz hT ⊢
  have hS' := hS.ext hx
  have hx1 : i < l.length → inr (l.getD i 0) := fun a => a3 _ (getD_mem a)
  simp only [inr] at hx1
  have htl : (trn (grt l) (l.take i)).length ≤ 256 := by simp [trn]; omega
  have hap := fun (v : Int) => app_own' (P := Try.prog) (t := 22) (H := H ++ [.cells [I v] 3 true]) (s := z) (u := .sl H.length 0 1 1 false) (l2 := [v]) iok sl_22 el_3 (hO.ext (ext_app _ _)) (elts_at (l := [v]) iok ⟨ga0⟩ (by rfl)) (by simp only [List.length_cons, List.length_nil]; omega)
  obtain ⟨z0, H0, p1, p2, p3, p4, p5⟩ := hap 0
  obtain ⟨z1, H1, q1, q2, q3, q4, q5⟩ := hap (grt l + 1 - l.getD i 0)
  have hxl := hx.1
  have done : ∀ (v : Int) (z' : AV) (H' : Hp), Oth (objOf z) (H ++ [AObj.cells [I v] 3 true]) H' → (∀ k, objOf z' = some k → objOf z = some k ∨ (H ++ [AObj.cells [I v] 3 true]).length ≤ k) → (Tight z → Tight z') → Ext h H' ∧ (∀ k, objOf z' = some k → h.length ≤ k) ∧ Tight z' := fun v z' H' e3 e4 e5 => by
    have e31 := e3.1
    simp at e31
    refine ⟨⟨by omega, fun j hj => ?_⟩, fun k hk => ?_, e5 hT⟩
    · have hzj : objOf z ≠ some j := fun hh => by have := hz j hh; omega
      rw [e3.2 j (by simp; omega) hzj, List.getElem?_append_left (by omega), hx.2 j hj]
    · rcases e4 k hk with h1 | h1
      · exact hz k h1
      · simp at h1; omega
  have d0 := done _ _ _ p3 p4 p5
  have d1 := done _ _ _ q3 q4 q5
  have el3 := mkEL iok (0:Int) hS'
  focus
    with_reducible refine s_seq ?_
    with_reducible refine s_seq ?_
    with_reducible refine s_reg ?_
    refine smove ?_
    simp only [pu', p0', c1', c0', i1', z0', b8_nat]
    refine smove ?_
    simp only [pu', p0', c1', c0', i1', z0', b8_nat]
    refine slenE ?_
    simp only [pu', p0', c1', c0', i1', z0', b8_nat]
    refine sLt (fun hb => ?_) (fun hb => ?_)
    replace hb := dT' hb
    simp only [pu', p0', c1', c0', i1', z0', b8_nat]
    with_reducible refine s_end ?_
    with_reducible refine s_then ?_
    refine sCT ?_
    with_reducible refine s_skip ?_
    with_reducible refine s_then ?_
    with_reducible refine s_seq ?_
    with_reducible refine s_block ?_
    with_reducible refine s_seq ?_
    with_reducible refine s_reg ?_
    refine smove ?_
    simp only [pu', p0', c1', c0', i1', z0', b8_nat]
    refine smove ?_
    simp only [pu', p0', c1', c0', i1', z0', b8_nat]
    refine sidxE ?_
    simp only [pu', p0', c1', c0', i1', z0', b8_nat]
    refine sloadE1 ?_
    simp only [pu', p0', c1', c0', i1', z0', b8_nat]
    refine sEq (fun hb => ?_) (fun hb => ?_)
    replace hb := dT' hb
    simp only [pu', p0', c1', c0', i1', z0', b8_nat]
    with_reducible refine s_end ?_
    with_reducible refine s_then ?_
    refine sCT ?_
    with_reducible refine s_reg ?_
    refine smove ?_
    simp only [pu', p0', c1', c0', i1', z0', b8_nat]
    refine sbsl ?_
    simp only [pu', p0', c1', c0', i1', n0', n3', n1', n2', a2', a1', a0', n4', Nat.reduceAdd, z0', n5', sa0, sa1, sa2, sa3, sa4, sa5, sa6, sa7, sa8, sa9, sa10, sa11]
    rotate_left 1
    replace hb := dF' hb
    simp only [pu', p0', c1', c0', i1', z0', b8_nat]
    with_reducible refine s_end ?_
    with_reducible refine s_then ?_
    refine sCF ?_
    with_reducible refine s_reg ?_
    refine smove ?_
    simp only [pu', p0', c1', c0', i1', z0', b8_nat]
    refine smove ?_
    simp only [pu', p0', c1', c0', i1', z0', b8_nat]
    refine sadd ?_
    simp only [pu', p0', c1', c0', i1', z0', b8_nat]
    refine smove ?_
    simp only [pu', p0', c1', c0', i1', z0', b8_nat]
    refine smove ?_
    simp only [pu', p0', c1', c0', i1', z0', b8_nat]
    refine sidxE ?_
    simp only [pu', p0', c1', c0', i1', z0', b8_nat]
    refine sloadE1 ?_
    simp only [pu', p0', c1', c0', i1', z0', b8_nat]
    refine ssub ?_
    simp only [pu', p0', c1', c0', i1', z0', b8_nat]
    refine sbsl ?_
    simp only [pu', p0', c1', c0', i1', n0', n3', n1', n2', a2', a1', a0', n4', Nat.reduceAdd, z0', n5', sa0, sa1, sa2, sa3, sa4, sa5, sa6, sa7, sa8, sa9, sa10, sa11]
    rotate_left 1
    replace hb := dF' hb
    simp only [pu', p0', c1', c0', i1', z0', b8_nat]
    with_reducible refine s_end ?_
    with_reducible refine s_then ?_
    refine sCF ?_
    with_reducible refine s_exit ?_
    with_reducible refine s_thenE ?_
    with_reducible refine l_exit ?_
    with_reducible refine s_blkE ?_
    with_reducible refine s_then ?_
    with_reducible refine s_seq ?_
    with_reducible refine s_reg ?_
    refine smove ?_
    simp only [pu', p0', c1', c0', i1', z0', b8_nat]
    refine sassign ?_
    simp only [pu', p0', c1', c0', i1', z0', b8_nat]
    refine sassign ?_
    simp only [pu', p0', c1', c0', i1', z0', b8_nat]
    with_reducible refine s_end ?_
    with_reducible refine s_then ?_
    with_reducible refine s_ret ?_
    rotate_left 1
  · refine s_gH (by rfl) (x_app (by exact e_any (by rfl)) (by exact e_any (by rfl)) p1) ?_
    simp only [Fr.put, List.set_cons_succ, List.set_cons_zero, Int.toNat_natCast, Nat.zero_add]
    refine sassign ?_
    simp only [pu', p0', c1', c0', i1', z0', b8_nat]
    with_reducible refine s_end ?_
    with_reducible refine s_blkN ?_
    with_reducible refine s_then ?_
    with_reducible refine s_reg ?_
    refine smove ?_
    simp only [pu', p0', c1', c0', i1', z0', b8_nat]
    refine sadd ?_
    simp only [pu', p0', c1', c0', i1', z0', b8_nat]
    refine sassign ?_
    simp only [pu', p0', c1', c0', i1', z0', b8_nat]
    with_reducible refine s_end ?_
    refine l_next ⟨i + 1, z0, H0⟩ ⟨by simp only []; omega, d0.1, ?_, d0.2.1, d0.2.2⟩ (by simp only []; omega) (by rfl) rfl
    simp only []
    rw [trn_snoc _ _ _ (by omega), if_pos hb]; exact p2
  · refine s_gH (by rfl) (x_app (by exact e_any (by rfl)) (by exact e_any (by rfl)) q1) ?_
    simp only [Fr.put, List.set_cons_succ, List.set_cons_zero, Int.toNat_natCast, Nat.zero_add]
    refine sassign ?_
    simp only [pu', p0', c1', c0', i1', z0', b8_nat]
    with_reducible refine s_end ?_
    with_reducible refine s_blkN ?_
    with_reducible refine s_then ?_
    with_reducible refine s_reg ?_
    refine smove ?_
    simp only [pu', p0', c1', c0', i1', z0', b8_nat]
    refine sadd ?_
    simp only [pu', p0', c1', c0', i1', z0', b8_nat]
    refine sassign ?_
    simp only [pu', p0', c1', c0', i1', z0', b8_nat]
    with_reducible refine s_end ?_
    refine l_next ⟨i + 1, z1, H1⟩ ⟨by simp only []; omega, d1.1, ?_, d1.2.1, d1.2.2⟩ (by simp only []; omega) (by rfl) rfl
    simp only []
    rw [trn_snoc _ _ _ (by omega), if_neg hb]; exact q2
  · ((try with_reducible refine w_n ?_); refine w_2 rfl (by first | exact v_t (by rfl) | exact v_c1 (C1.p) (by rfl) (HA.p) (by rfl) | exact v_cF (CA.p) (by rfl) (HA.p) (by rfl)) (by first | exact v_t (by rfl) | exact v_c1 (C1.p) (by rfl) (HA.p) (by rfl) | exact v_cF (CA.p) (by rfl) (HA.p) (by rfl)) ?_)
    rw [List.take_of_length_le (by omega)] at hO
    exact ⟨_, z, hx, by rw [hc], hO, hz, hT, fun s' h2 hh => ⟨s', rfl, by rw [wtL, if_pos hc]; exact hh⟩⟩
theorem x_slcHi22 {f : Fr} {h : Hp} {a b : Operand} {i n c m : Nat} {u : Bool} {cs : List AV} (hn : m ≤ n) (hi : h[i]? = some (.cells cs 3 true)) (hl : n ≤ cs.length) (hc1 : u = true → c = 0) (hc2 : u = false → c = n) (ha : ev f a = .sl i 0 n c u) (hb : ev f b = I m) : exL Try.prog f h (.slice 22 a none (some b) none) = some (.sl i 0 m (if u = true then 0 else n) u) := by
  obtain ⟨hu, inf, hinf, h1⟩ := sliOf_spec sl_22
  have hn2 : ((m : Nat) : Int) ≤ n := by omega
  cases u
  · rw [hc2 rfl] at ha
    simp [exL, ha, hb, slc, hu, hinf, bnds, bnd, intOf?, cutAt, hn, hn2]
  · rw [hc1 rfl] at ha
    have hc : capOk Try.prog h 3 i n 0 = true := by simp [capOk, hi, hinf, h1]; omega
    simp [exL, ha, hb, slc, hu, hinf, hc, ubnds, bnds, bnd, intOf?, hn, hn2]
def lsL (l : List Int) : List Int := (wtL l).dropLast
theorem rlisted_any (h : Hp) (s : AV) (l : List Int) (hS : TI h s l) : ACalls Try.prog 15 [s] h (fun r h' => ∃ s' o, r = .tup [s', I (chkW l)] ∧ h' = h ++ [o] ∧ ∀ r, TI (h ++ o :: r) s' (lsL l)) := by
  by_cases hc : chkW l = 0
  case neg =>
    have hw : wtL l = [] := by rw [wtL, if_neg hc]
    refine acalls_of_wk hm Try.func15 rfl ?_
    simp only [Try.ntmps15, List.length_cons, List.length_nil, Nat.reduceAdd, Nat.reduceSub, List.reduceReplicate, List.cons_append, List.nil_append]
    show wk _ _ none _ _ ⟨_, []⟩ _
    focus
      with_reducible refine s_seq ?_
      with_reducible refine s_reg ?_
      refine sassign ?_
      simp only [pu', p0', c1', c0', i1', z0', b8_nat]
      refine sassign ?_
      simp only [pu', p0', c1', c0', i1', z0', b8_nat]
      with_reducible refine s_end ?_
      with_reducible refine s_then ?_
      with_reducible refine s_seq ?_
      with_reducible refine s_reg ?_
      refine smove ?_
      simp only [pu', p0', c1', c0', i1', z0', b8_nat]
      refine sC (hx := rfl) ((rweights_any _ _ _ hS).mono ?_)
      rintro _ _ _ ⟨s1, rfl, hR1⟩
      obtain ⟨o1, rfl, hE1⟩ := hR1.shapeE iok
      have el1 := fun r => mkEL iok (0:Int) (hE1 r)
      simp only [pu', p0', c1', c0', i1', n0', n3', n1', n2', a2', a1', a0', n4', Nat.reduceAdd, z0', n5', sa0, sa1, sa2, sa3, sa4, sa5, sa6, sa7, sa8, sa9, sa10, sa11]
      refine smove ?_
      simp only [pu', p0', c1', c0', i1', z0', b8_nat]
      refine sext ?_
      simp only [pu', p0', c1', c0', i1', z0', b8_nat]
      refine sext ?_
      simp only [pu', p0', c1', c0', i1', z0', b8_nat]
      refine sassign ?_
      simp only [pu', p0', c1', c0', i1', z0', b8_nat]
      refine sassign ?_
      simp only [pu', p0', c1', c0', i1', z0', b8_nat]
      with_reducible refine s_end ?_
      with_reducible refine s_then ?_
      with_reducible refine s_seq ?_
      with_reducible refine s_seq ?_
      with_reducible refine s_reg ?_
      refine smove ?_
      simp only [pu', p0', c1', c0', i1', z0', b8_nat]
      refine sNe (fun hb => ?_) (fun hb => ?_)
      replace hb := dT' hb
      simp only [pu', p0', c1', c0', i1', z0', b8_nat]
      with_reducible refine s_end ?_
      with_reducible refine s_then ?_
      refine sCT ?_
      with_reducible refine s_seq ?_
      with_reducible refine s_reg ?_
      refine smove ?_
      simp only [pu', p0', c1', c0', i1', z0', b8_nat]
      refine sassign ?_
      simp only [pu', p0', c1', c0', i1', z0', b8_nat]
      refine sassign ?_
      simp only [pu', p0', c1', c0', i1', z0', b8_nat]
      with_reducible refine s_end ?_
      with_reducible refine s_then ?_
      with_reducible refine s_ret ?_
      with_reducible refine s_thenR ?_
      rotate_left 1
      replace hb := dF' hb
      exact absurd (by with_reducible assumption) hb
    all_goals try with_reducible refine w_n ?_
    all_goals refine w_2 rfl (by first | exact v_t (by rfl) | exact v_c1 (C1.p) (by rfl) (HA.p) (by rfl) | exact v_cF (CA.p) (by rfl) (HA.p) (by rfl)) (by first | exact v_t (by rfl) | exact v_c1 (C1.p) (by rfl) (HA.p) (by rfl) | exact v_cF (CA.p) (by rfl) (HA.p) (by rfl)) ?_
    exact ⟨nilS, o1, rfl, rfl, fun r => .inl ⟨rfl, by rw [lsL, hw]; rfl⟩⟩
  obtain ⟨a1, a2, a3⟩ := cw_ok hc
  have hw : wtL l = trn (grt l) l := by rw [wtL, if_pos hc]
  have hwl : (wtL l).length = l.length := by rw [hw, trn_len]
  have e : ((wtL l).length : Int) - 1 = ((l.length - 1 : Nat) : Int) := by omega
  refine acalls_of_wk hm Try.func15 rfl ?_
  simp only [Try.ntmps15, List.length_cons, List.length_nil, Nat.reduceAdd, Nat.reduceSub, List.reduceReplicate, List.cons_append, List.nil_append]
  show wk _ _ none _ _ ⟨_, []⟩ _
  with_reducible refine s_seq ?_
  with_reducible refine s_reg ?_
  refine sassign ?_
  simp only [pu', p0', c1', c0', i1', z0', b8_nat]
  refine sassign ?_
  simp only [pu', p0', c1', c0', i1', z0', b8_nat]
  with_reducible refine s_end ?_
  with_reducible refine s_then ?_
  with_reducible refine s_seq ?_
  with_reducible refine s_reg ?_
  refine smove ?_
  simp only [pu', p0', c1', c0', i1', z0', b8_nat]
  refine sC (hx := rfl) ((rweights_any _ _ _ hS).mono ?_)
  rintro _ _ _ ⟨s1, rfl, hR1⟩
  obtain ⟨o1, rfl, hE1⟩ := hR1.shapeE iok
  have el1 := fun r => mkEL iok (0:Int) (hE1 r)
  simp only [pu', p0', c1', c0', i1', n0', n3', n1', n2', a2', a1', a0', n4', Nat.reduceAdd, z0', n5', sa0, sa1, sa2, sa3, sa4, sa5, sa6, sa7, sa8, sa9, sa10, sa11]
  refine smove ?_
  simp only [pu', p0', c1', c0', i1', z0', b8_nat]
  refine sext ?_
  simp only [pu', p0', c1', c0', i1', z0', b8_nat]
  refine sext ?_
  simp only [pu', p0', c1', c0', i1', z0', b8_nat]
  refine sassign ?_
  simp only [pu', p0', c1', c0', i1', z0', b8_nat]
  refine sassign ?_
  simp only [pu', p0', c1', c0', i1', z0', b8_nat]
  with_reducible refine s_end ?_
  with_reducible refine s_then ?_
  with_reducible refine s_seq ?_
  with_reducible refine s_seq ?_
  with_reducible refine s_reg ?_
  refine smove ?_
  simp only [pu', p0', c1', c0', i1', z0', b8_nat]
  refine sNe (fun hb => ?_) (fun hb => ?_)
  replace hb := dT' hb
  (exfalso; omega)
  replace hb := dF' hb
  simp only [pu', p0', c1', c0', i1', z0', b8_nat]
  with_reducible refine s_end ?_
  with_reducible refine s_then ?_
  refine sCF ?_
  with_reducible refine s_skip ?_
  with_reducible refine s_then ?_
  with_reducible refine s_seq ?_
  with_reducible refine s_reg ?_
  refine smove ?_
  simp only [pu', p0', c1', c0', i1', z0', b8_nat]
  refine smove ?_
  simp only [pu', p0', c1', c0', i1', z0', b8_nat]
  refine slenE ?_
  simp only [pu', p0', c1', c0', i1', z0', b8_nat]
  refine ssub ?_
  simp only [pu', p0', c1', c0', i1', z0', b8_nat]
  rcases hR1 with ⟨_, hl, _⟩ | ⟨c, u, rfl, ho, hc1, hc2⟩
  · rw [hl] at hwl; simp at hwl; omega
  simp only [e]
  have ho1 : o1 = .cells ((wtL l).flatMap (encI .i64)) 3 true := by
    have := List.append_cancel_left ho
    simpa using this
  subst ho1
  refine s_gL (by rfl) (x_slcHi22 (m := l.length - 1) (by omega) ga0 (by rw [flat_len iok]; omega) hc1 hc2 (by exact e_any (by rfl)) (by exact e_any (by rfl))) ?_
  simp only [Fr.put, List.set_cons_succ, List.set_cons_zero, Int.toNat_natCast, Nat.zero_add]
  refine sassign ?_
  simp only [pu', p0', c1', c0', i1', z0', b8_nat]
  refine sassign ?_
  simp only [pu', p0', c1', c0', i1', z0', b8_nat]
  with_reducible refine s_end ?_
  with_reducible refine s_then ?_
  with_reducible refine s_ret ?_
  all_goals try with_reducible refine w_n ?_
  all_goals refine w_2 rfl (by first | exact v_t (by rfl) | exact v_c1 (C1.p) (by rfl) (HA.p) (by rfl) | exact v_cF (CA.p) (by rfl) (HA.p) (by rfl)) (by first | exact v_t (by rfl) | exact v_c1 (C1.p) (by rfl) (HA.p) (by rfl) | exact v_cF (CA.p) (by rfl) (HA.p) (by rfl)) ?_
  refine ⟨.sl h.length 0 (l.length - 1) (if u = true then 0 else (wtL l).length) u, .cells ((wtL l).flatMap (encI .i64)) 3 true, by rw [hc], rfl, fun r => .inr ⟨h.length, 0, _, u, _, 3, true, by rw [lsL, List.length_dropLast, hwl], ga0, ?_, ?_⟩⟩
  · rw [lsL, List.length_dropLast, flat_len iok]; omega
  · rw [lsL, List.length_dropLast, List.drop_zero, List.dropLast_eq_take]
    exact flat_take iok ((wtL l).length - 1) (wtL l)
end Go.Proofs.Ytckljanplahbkaa
