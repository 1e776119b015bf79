/-
  A part of the proof of a statement of a chapter's seat; conditions: stated at each theorem.
-/
import Derived.Test.YtckljanplahbkaaM8
set_option linter.unusedVariables false
set_option linter.unusedSectionVars false
set_option linter.unusedSimpArgs false
set_option linter.unusedVariables false
set_option maxRecDepth 100000
set_option maxHeartbeats 4000000
namespace Go.Proofs.Ytckljanplahbkaa
open Go.Az Go
theorem app_full {α : Type} {enc : α → List AV} {q : Nat} {e : TypeId} {P : Program} {t : TypeId} {H : Hp} {i o : Nat} {u : AV} {l l2 : List α} (hE : EncOk enc q) (hu : sliOf P t = some (e, q)) (he : elOkQ P e q = true) (hS1 : Elts enc q H (.sl i o l.length l.length false) l) (hS : Elts enc q H u l2) (hlen : l.length + l2.length ≤ 1099511627776) (h0 : l2 ≠ []) :
    app P H [t, t] (.sl i o l.length l.length false) u = some (.sl H.length 0 (l.length + l2.length) 0 true, H ++ [.cells ((l ++ l2).flatMap enc) e true]) := by
  have hu' := sliOf_und hu
  unfold elOkQ at he
  split at he
  case h_2 => cases he
  rename_i ti inf ht hinf
  simp only [Bool.and_eq_true, Nat.beq_eq, Nat.ble_eq, Bool.not_eq_true'] at he
  obtain ⟨⟨⟨hs1, hby⟩, hi1⟩, hq0⟩ := he
  have hq : q ≠ 0 := by intro h; subst h; cases hq0
  have hsrc : srcC H q u = some (l2.length, l2.flatMap enc) := by
    rcases hS with ⟨rfl, rfl⟩ | ⟨i, o, c, u', cs, t', own, rfl, h2, h3, h4⟩
    · rfl
    · simp only [srcC, h2]
      rw [if_pos h3, h4]
  rcases hS1 with ⟨hh, _⟩ | ⟨i', o', c', u', cs, t', ow, hh, h2, h3, h4⟩
  · cases hh
  injection hh with e1 e2 e3 e4 e5
  subst e1 e2 e4 e5
  have hl : l2.length ≠ 0 := by simpa using h0
  have hb : (l.length + l2.length) * ti.bytes ≤ 140737488355328 := Nat.le_trans (Nat.mul_le_mul hlen hby) (by omega)
  unfold app
  simp only [ne_eq, not_true_eq_false, if_false, hu', ht, hs1, hq, hsrc, flat_one hE, Bool.true_eq_false]
  rw [if_neg (by omega), if_neg hl]
  simp only [h2]
  rw [if_pos ⟨h3, by omega, hb⟩, h4, List.flatMap_append]
/-- What is asked of the slice: cut to its length, it has no room. -/
def Cut3 (h : Hp) (s : AV) (l : List Int) : Prop := ∃ i o, (∀ (f : Fr) (a b c : Operand), ev f a = s → ev f b = I l.length → ev f c = I l.length → exL Try.prog f h (.slice 22 a none (some b) (some c)) = some (.sl i o l.length l.length false)) ∧ TI h (.sl i o l.length l.length false) l
def lnL (l : List Int) : List Int := if impE l = 0 then trn (impM l) (l ++ [impW l]) else []
theorem im_bd {l : List Int} (h : impE l = 0) : 1 ≤ impW l ∧ impW l ≤ 11 ∧ 0 ≤ impM l ∧ impM l ≤ 11 := by
  obtain ⟨a1, a2, a3, a4, a5, a6⟩ := im_ok h
  have hs := sumW_bd a2 a3
  have hself := hi_self hs.1
  have h1 : 1 ≤ lfW l := by unfold lfW mW; omega
  have h2 : pw (mW l) ≤ 2048 := pw_le (k := 11) a5
  have h3 : hiF (lfW l) < 11 := hi_lt (k := 11) (by unfold lfW; omega) (by omega)
  have h4 := hi_bd (sumW l)
  rw [impW, impM, if_pos h, if_pos h]
  have h5 : 0 ≤ hiF (lfW l) := by unfold hiF; rw [if_neg (by omega)]; omega
  unfold mW at *
  omega
theorem lengths_ok (h : Hp) (s : AV) (l : List Int) (hS : TI h s l) (hC : Cut3 h s l) (he : impE l = 0) : ACalls Try.prog 23 [s] h (fun r h' => r = .tup [.sl (h.length + 2) 0 (l ++ [impW l]).length (l ++ [impW l]).length false, I 0] ∧ h' = h ++ [.cells [I (impW l)] 3 true, .cells ((l ++ [impW l]).flatMap (encI .i64)) 3 true, .cells (rowC (impM l) (l ++ [impW l]) (l ++ [impW l]).length) 63 true]) := by
  obtain ⟨a1, a2, a3, _⟩ := im_ok he
  obtain ⟨b1, b2, b3, b4⟩ := im_bd he
  obtain ⟨i, o, hx, hE⟩ := hC
  have hin2 : ∀ x ∈ l ++ [impW l], inr x := fun x hx => by
    rcases List.mem_append.1 hx with h1 | h1
    · exact a3 x h1
    · simp only [List.mem_singleton] at h1; rw [h1]; exact ⟨by omega, b2⟩
  refine acalls_of_wk hm Try.func23 rfl ?_
  simp only [Try.ntmps23, List.length_cons, List.length_nil, Nat.reduceAdd, Nat.reduceSub, List.reduceReplicate, List.cons_append, List.nil_append]
  show wk _ _ none _ _ ⟨_, []⟩ _
  have el1 := mkEL iok (0:Int) hS
  with_reducible refine s_seq ?_
  with_reducible refine s_reg ?_
  refine sassign ?_
  simp only [pu', p0', c1', c0', i1', z0', b8_nat]
  refine sassign ?_
  simp only [pu', p0', c1', c0', i1', z0', b8_nat]
  with_reducible refine s_end ?_
  with_reducible refine s_then ?_
  with_reducible refine s_seq ?_
  with_reducible refine s_reg ?_
  refine smove ?_
  simp only [pu', p0', c1', c0', i1', z0', b8_nat]
  refine sM (hx := rfl) (implied_any _ _ _ hS) ?_
  simp only [pu', p0', c1', c0', i1', z0', b8_nat]
  refine smove ?_
  simp only [pu', p0', c1', c0', i1', z0', b8_nat]
  refine sext ?_
  simp only [pu', p0', c1', c0', i1', z0', b8_nat]
  refine sext ?_
  simp only [pu', p0', c1', c0', i1', z0', b8_nat]
  refine sext ?_
  simp only [pu', p0', c1', c0', i1', z0', b8_nat]
  refine sassign ?_
  simp only [pu', p0', c1', c0', i1', z0', b8_nat]
  refine sassign ?_
  simp only [pu', p0', c1', c0', i1', z0', b8_nat]
  refine sassign ?_
  simp only [pu', p0', c1', c0', i1', z0', b8_nat]
  with_reducible refine s_end ?_
  with_reducible refine s_then ?_
  with_reducible refine s_seq ?_
  with_reducible refine s_seq ?_
  with_reducible refine s_reg ?_
  refine smove ?_
  simp only [pu', p0', c1', c0', i1', z0', b8_nat]
  refine sNe (fun hb => ?_) (fun hb => ?_)
  replace hb := dT' hb
  (exfalso; omega)
  replace hb := dF' hb
  simp only [pu', p0', c1', c0', i1', z0', b8_nat]
  with_reducible refine s_end ?_
  with_reducible refine s_then ?_
  refine sCF ?_
  with_reducible refine s_skip ?_
  with_reducible refine s_then ?_
  with_reducible refine s_seq ?_
  with_reducible refine s_reg ?_
  refine smove ?_
  simp only [pu', p0', c1', c0', i1', z0', b8_nat]
  refine smove ?_
  simp only [pu', p0', c1', c0', i1', z0', b8_nat]
  refine slenE ?_
  simp only [pu', p0', c1', c0', i1', z0', b8_nat]
  refine smove ?_
  simp only [pu', p0', c1', c0', i1', z0', b8_nat]
  refine slenE ?_
  simp only [pu', p0', c1', c0', i1', z0', b8_nat]
  refine s_gL (by rfl) (hx _ _ _ _ (by exact e_any (by rfl)) (by exact e_any (by rfl)) (by exact e_any (by rfl))) ?_
  simp only [Fr.put, List.set_cons_succ, List.set_cons_zero, Int.toNat_natCast, Nat.zero_add]
  refine smove ?_
  simp only [pu', p0', c1', c0', i1', z0', b8_nat]
  refine sbsl ?_
  simp only [pu', p0', c1', c0', i1', n0', n3', n1', n2', a2', a1', a0', n4', Nat.reduceAdd, z0', n5', sa0, sa1, sa2, sa3, sa4, sa5, sa6, sa7, sa8, sa9, sa10, sa11]
  refine s_gH (by rfl) (x_app (by exact e_any (by rfl)) (by exact e_any (by rfl)) (app_full (l := l) (l2 := [impW l]) iok sl_22 el_3 (hE.ext (ext_app _ _)) (elts_at (l := [impW l]) iok ⟨ga0⟩ (by rfl)) (by simp; omega) (by simp))) ?_
  simp only [Fr.put, List.set_cons_succ, List.set_cons_zero, Int.toNat_natCast, List.length_append, List.length_set, List.length_cons, List.length_nil, List.nil_append, List.cons_append, List.append_assoc, List.length_replicate, Nat.reduceAdd, Nat.zero_add, Nat.add_assoc, sa0, sa1, sa2, sa3, sa4, sa5, sa6, sa7, sa8, sa9, sa10, sa11]
  have hE2 : TI (h ++ [.cells [I (impW l)] 3 true, .cells ((l ++ [impW l]).flatMap (encI .i64)) 3 true]) (.sl (h.length + 1) 0 (l.length + 1) 0 true) (l ++ [impW l]) := by
    have := elts_at (l := l ++ [impW l]) (c := 0) (u := true) iok (⟨ga1⟩ : HA (h ++ [.cells [I (impW l)] 3 true, .cells ((l ++ [impW l]).flatMap (encI .i64)) 3 true]) (h.length + 1) _) rfl
    rwa [List.length_append] at this
  refine smove ?_
  simp only [pu', p0', c1', c0', i1', z0', b8_nat]
  refine sX (hx := rfl) (turned_any _ _ (l ++ [impW l]) (impM l) hE2 (by simp; omega) b3 b4 hin2) ?_
  simp only [pu', p0', c1', c0', i1', n0', n3', n1', n2', a2', a1', a0', n4', Nat.reduceAdd, z0', n5', sa0, sa1, sa2, sa3, sa4, sa5, sa6, sa7, sa8, sa9, sa10, sa11]
  refine sassign ?_
  simp only [pu', p0', c1', c0', i1', z0', b8_nat]
  refine sassign ?_
  simp only [pu', p0', c1', c0', i1', z0', b8_nat]
  with_reducible refine s_end ?_
  with_reducible refine s_then ?_
  with_reducible refine s_ret ?_
  all_goals try with_reducible refine w_n ?_
  all_goals refine w_2 rfl (by first | exact v_t (by rfl) | exact v_c1 (C1.p) (by rfl) (HA.p) (by rfl) | exact v_cF (CA.p) (by rfl) (HA.p) (by rfl)) (by first | exact v_t (by rfl) | exact v_c1 (C1.p) (by rfl) (HA.p) (by rfl) | exact v_cF (CA.p) (by rfl) (HA.p) (by rfl)) ?_
  exact ⟨rfl, rfl⟩
structure RL where
  i : Nat
  z : AV
  H : Hp
end Go.Proofs.Ytckljanplahbkaa
