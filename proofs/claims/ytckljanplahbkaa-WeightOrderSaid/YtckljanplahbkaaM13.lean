/-
  A part of the proof of a statement of a chapter's seat; conditions: stated at each theorem.
-/
import Derived.Test.YtckljanplahbkaaM11
set_option linter.unusedVariables false
set_option linter.unusedSectionVars false
set_option linter.unusedSimpArgs false
set_option linter.unusedVariables false
set_option maxRecDepth 100000
set_option maxHeartbeats 4000000
namespace Go.Proofs.Ytckljanplahbkaa
open Go.Az Go
abbrev rd (s : List UInt8) (x : Int) (z : AV) : AObj := .cells [St s, I x, z] 60 true
def byt (s : List UInt8) (n : Nat) : Int := ((s.getD n 0).toNat : Nat)
theorem byt_bd (s : List UInt8) (n : Nat) : 0 ≤ byt s n ∧ byt s n ≤ 255 := by
  have := UInt8.toNat_lt (s.getD n 0)
  unfold byt; omega
theorem and15_tab : (List.range 256).all (fun n => decide (andI .i64 (n : Nat) 15 = (n : Nat) % 16)) = true := by kernel_rfl
theorem and_15 {x : Int} (h0 : 0 ≤ x) (h1 : x ≤ 255) : andI .i64 x 15 = x % 16 := by
  have h := List.all_eq_true.1 and15_tab x.toNat (by simp; omega)
  simp only [decide_eq_true_eq, Int.toNat_of_nonneg h0] at h
  exact h
theorem hp_lt {h : Hp} {i : Nat} {o : AObj} (hi : h[i]? = some o) : i < h.length := by
  rcases Nat.lt_or_ge i h.length with h1 | h1
  · exact h1
  · rw [List.getElem?_eq_none h1] at hi; cases hi
theorem left_any (H : Hp) (i : Nat) (s : List UInt8) (x : Int) (z : AV) (hi : HA H i (rd s x z)) (h0 : 0 ≤ x) (h1 : x ≤ s.length) (h2 : s.length ≤ 1000000) : ACalls Try.prog 39 [.ptr i 0] H (fun r h' => r = I (s.length - x) ∧ h' = H) := by
  refine acalls_of_wk hm Try.func39 rfl ?_
  simp only [Try.ntmps39, List.length_cons, List.length_nil, Nat.reduceAdd, Nat.reduceSub, List.reduceReplicate, List.cons_append, List.nil_append]
  show wk _ _ none _ _ ⟨_, []⟩ _
  with_reducible refine s_seq ?_
  with_reducible refine s_reg ?_
  refine sassign ?_
  simp only [pu', p0', c1', c0', i1', z0', b8_nat]
  with_reducible refine s_end ?_
  with_reducible refine s_then ?_
  with_reducible refine s_seq ?_
  (refine s_regQ (id := 1) [(0, true), (1, true), (2, true), (3, true), (4, true), (5, true), (6, true), (7, true), (8, true), (9, true), (10, true)] (by kernel_rfl) (by conv => lhs; simp only [pickO, List.getElem?_cons_succ, List.getElem?_cons_zero]) ?_)
  refine qmove ?_
  simp only [pu', p0', c1', c0', i1', z0', b8_nat]
  refine qnilP ?_
  simp only [pu', p0', c1', c0', i1', z0', b8_nat]
  refine qfad ?_
  simp only [pu', p0', c1', c0', i1', z0', b8_nat]
  refine qload1 ?_
  simp only [pu', p0', c1', c0', i1', z0', b8_nat]
  refine qlenS ?_
  simp only [pu', p0', c1', c0', i1', z0', b8_nat]
  refine qmove ?_
  simp only [pu', p0', c1', c0', i1', z0', b8_nat]
  refine qnilP ?_
  simp only [pu', p0', c1', c0', i1', z0', b8_nat]
  refine qfad ?_
  simp only [pu', p0', c1', c0', i1', z0', b8_nat]
  refine qload1 ?_
  simp only [pu', p0', c1', c0', i1', z0', b8_nat]
  refine qsub ?_
  simp only [pu', p0', c1', c0', i1', z0', b8_nat]
  refine qassign ?_
  simp only [pu', p0', c1', c0', i1', z0', b8_nat]
  with_reducible refine q_end ?_
  with_reducible refine s_then ?_
  with_reducible refine s_ret ?_
  all_goals try with_reducible refine w_n ?_
  all_goals refine w_1 rfl (by first | exact v_t (by rfl) | exact v_c1 (C1.p) (by rfl) (HA.p) (by rfl) | exact v_cF (CA.p) (by rfl) (HA.p) (by rfl)) ?_
  exact ⟨rfl, rfl⟩
theorem next_any (H : Hp) (i : Nat) (s : List UInt8) (x : Int) (z : AV) (hi : HA H i (rd s x z)) (h0 : 0 ≤ x) (h1 : x < s.length) (h2 : s.length ≤ 1000000) : ACalls Try.prog 40 [.ptr i 0] H (fun r h' => r = I (byt s x.toNat) ∧ h' = H.set i (rd s (x + 1) z)) := by
  have hil := hp_lt hi.p
  have i1 := fun o => (⟨List.getElem?_set_self hil⟩ : HA (H.set i o) i o)
  have hb := UInt8.toNat_lt (s.getD (x + 1 - 1).toNat 0)
  refine acalls_of_wk hm Try.func40 rfl ?_
  simp only [Try.ntmps40, List.length_cons, List.length_nil, Nat.reduceAdd, Nat.reduceSub, List.reduceReplicate, List.cons_append, List.nil_append]
  show wk _ _ none _ _ ⟨_, []⟩ _
  with_reducible refine s_seq ?_
  with_reducible refine s_reg ?_
  refine sassign ?_
  simp only [pu', p0', c1', c0', i1', z0', b8_nat]
  with_reducible refine s_end ?_
  with_reducible refine s_then ?_
  with_reducible refine s_seq ?_
  with_reducible refine s_reg ?_
  refine smove ?_
  simp only [pu', p0', c1', c0', i1', z0', b8_nat]
  refine snilP ?_
  simp only [pu', p0', c1', c0', i1', z0', b8_nat]
  refine sfad ?_
  simp only [pu', p0', c1', c0', i1', z0', b8_nat]
  refine sload1 ?_
  simp only [pu', p0', c1', c0', i1', z0', b8_nat]
  refine sadd ?_
  simp only [pu', p0', c1', c0', i1', z0', b8_nat]
  refine snilP ?_
  simp only [pu', p0', c1', c0', i1', z0', b8_nat]
  refine sfad ?_
  simp only [pu', p0', c1', c0', i1', z0', b8_nat]
  refine sstore1 ?_
  simp only [pu', p0', c1', c0', i1', n0', n3', n1', n2', a2', a1', a0', n4', Nat.reduceAdd, z0', n5', sa0, sa1, sa2, sa3, sa4, sa5, sa6, sa7, sa8, sa9, sa10, sa11]
  with_reducible refine s_end ?_
  with_reducible refine s_then ?_
  with_reducible refine s_seq ?_
  (refine s_regQ (id := 2) [(0, true), (1, true), (2, true), (3, true), (4, true), (5, true), (6, true), (7, true), (8, true), (9, true), (10, true), (11, true)] (by kernel_rfl) (by conv => lhs; simp only [pickO, List.getElem?_cons_succ, List.getElem?_cons_zero]) ?_)
  refine qmove ?_
  simp only [pu', p0', c1', c0', i1', z0', b8_nat]
  refine qnilP ?_
  simp only [pu', p0', c1', c0', i1', z0', b8_nat]
  refine qfad ?_
  simp only [pu', p0', c1', c0', i1', z0', b8_nat]
  refine qload1 ?_
  simp only [pu', p0', c1', c0', i1', z0', b8_nat]
  refine qmove ?_
  simp only [pu', p0', c1', c0', i1', z0', b8_nat]
  refine qnilP ?_
  simp only [pu', p0', c1', c0', i1', z0', b8_nat]
  refine qfad ?_
  simp only [pu', p0', c1', c0', i1', z0', b8_nat]
  refine qload1 ?_
  simp only [pu', p0', c1', c0', i1', z0', b8_nat]
  refine qsub ?_
  simp only [pu', p0', c1', c0', i1', z0', b8_nat]
  refine qidxStr ?_
  simp only [pu', p0', c1', c0', i1', z0', b8_nat]
  refine qconv ?_
  simp only [pu', p0', c1', c0', i1', z0', b8_nat]
  refine qassign ?_
  simp only [pu', p0', c1', c0', i1', z0', b8_nat]
  with_reducible refine q_end ?_
  with_reducible refine s_then ?_
  with_reducible refine s_ret ?_
  all_goals try with_reducible refine w_n ?_
  all_goals refine w_1 rfl (by first | exact v_t (by rfl) | exact v_c1 (C1.p) (by rfl) (HA.p) (by rfl) | exact v_cF (CA.p) (by rfl) (HA.p) (by rfl)) ?_
  refine ⟨?_, rfl⟩
  rw [show x + 1 - 1 = x by omega]; rfl
/-- One byte's weights. -/
def hlf (b m : Int) : List Int := if m > 1 then [b / 2 ^ 4, b % 16] else [b / 2 ^ 4]
structure HalfP (H : Hp) (i : Nat) (s : List UInt8) (x : Int) (z : AV) (L : List Int) (h' : Hp) (z' : AV) : Prop where
  rdr : h'[i]? = some (rd s x z')
  own : Own (encI .i64) 1 3 h' z' L
  ne : objOf z' ≠ some i
  len : H.length ≤ h'.length
  oth : ∀ j, j < H.length → j ≠ i → objOf z ≠ some j → h'[j]? = H[j]?
  obj : ∀ k, objOf z' = some k → objOf z = some k ∨ H.length ≤ k
  tight : Tight z → Tight z'
theorem half_app {H : Hp} {i : Nat} {s : List UInt8} {x : Int} {z : AV} {L : List Int} (hi : H[i]? = some (rd s x z)) (hO : Own (encI .i64) 1 3 H z L) (hne : objOf z ≠ some i) (hL : L.length ≤ 1000) (v : Int) :
    ∃ z' H', app Try.prog (H ++ [.cells [I v] 3 true]) [22, 22] z (.sl H.length 0 1 1 false) = some (z', H') ∧ HA H' i (rd s x z) ∧ HalfP H i s x z (L ++ [v]) (H'.set i (rd s x z')) z' := by
  have hil := hp_lt hi
  obtain ⟨z', H', e1, e2, e3, e4, e5⟩ := app_own' (P := Try.prog) (t := 22) (H := H ++ [.cells [I v] 3 true]) (s := z) (u := .sl H.length 0 1 1 false) (l2 := [v]) iok sl_22 el_3 (hO.ext (ext_app _ _)) (elts_at (l := [v]) iok ⟨ga0⟩ (by rfl)) (by simp only [List.length_cons, List.length_nil]; omega)
  have e31 := e3.1
  simp at e31
  have hi' : H'[i]? = some (rd s x z) := by rw [e3.2 i (by simp; omega) hne, List.getElem?_append_left hil, hi]
  have hne' : objOf z' ≠ some i := fun hh => by
    rcases e4 i hh with h1 | h1
    · exact hne h1
    · simp at h1; omega
  refine ⟨z', H', e1, ⟨hi'⟩, List.getElem?_set_self (hp_lt hi'), ?_, hne', by rw [List.length_set]; omega, fun j hj hji hzj => ?_, fun k hk => ?_, e5⟩
  · exact e2.oth (o := some i) ⟨by rw [List.length_set]; exact Nat.le_refl _, fun j hj hne2 => List.getElem?_set_ne (fun e => hne2 (by rw [e]))⟩ (fun k hk hh => hne' (by rw [hk, ← hh]))
  · rw [List.getElem?_set_ne (fun e => hji e.symm), e3.2 j (by simp; omega) hzj, List.getElem?_append_left hj]
  · rcases e4 k hk with h1 | h1
    · exact .inl h1
    · simp at h1; exact .inr (by omega)
theorem own_plain {H : Hp} {z : AV} {L : List Int} (h : Own (encI .i64) 1 3 H z L) : z.plain = true := by
  rcases h with ⟨rfl, _⟩ | ⟨i, o, c, u, cs, rfl, _⟩ <;> rfl
theorem half_any (H : Hp) (i : Nat) (s : List UInt8) (x : Int) (z : AV) (L : List Int) (m : Int) (hi : HA H i (rd s x z)) (h0 : 0 ≤ x) (h1 : x < s.length) (h2 : s.length ≤ 1000000) (hO : Own (encI .i64) 1 3 H z L) (hne : objOf z ≠ some i) (hL : L.length ≤ 900) : ACalls Try.prog 41 [.ptr i 0, I m] H (fun r h' => ∃ z', HalfP H i s (x + 1) z (L ++ hlf (byt s x.toNat) m) h' z') := by
  have hil := hp_lt hi.p
  have i1 := fun o => (⟨List.getElem?_set_self hil⟩ : HA (H.set i o) i o)
  have hb := byt_bd s x.toNat
  have h15 := and_15 hb.1 hb.2
  have hO1 : Own (encI .i64) 1 3 (H.set i (rd s (x + 1) z)) z L := hO.oth (o := some i) ⟨by rw [List.length_set]; exact Nat.le_refl _, fun j hj hne2 => List.getElem?_set_ne (fun e => hne2 (by rw [e]))⟩ (fun k hk hh => hne (by rw [hk, ← hh]))
  obtain ⟨z1, H1, p1, p2, p3⟩ := half_app (i1 _).p hO1 hne (by omega) (byt s x.toNat / 2 ^ 4)
  obtain ⟨z2, H2, q1, q2, q3⟩ := half_app p3.rdr p3.own p3.ne (by simp; omega) (byt s x.toNat % 16)
  have i2 : HA (H1.set i (rd s (x + 1) z1)) i (rd s (x + 1) z1) := ⟨p3.rdr⟩
  have hsl : (H.set i (rd s (x + 1) z)).length = H.length := List.length_set
  have hsl2 : (H1.set i (rd s (x + 1) z1)).length = H1.length := List.length_set
  rw [hsl] at p1
  rw [hsl2] at q1
  have r1 : HalfP H i s (x + 1) z (L ++ [byt s x.toNat / 2 ^ 4]) (H1.set i (rd s (x + 1) z1)) z1 := ⟨p3.rdr, p3.own, p3.ne, by have := p3.len; omega, fun j hj hji hzj => by rw [p3.oth j (by omega) hji hzj, List.getElem?_set_ne (fun e => hji e.symm)], fun k hk => by have := p3.obj k hk; rwa [hsl] at this, p3.tight⟩
  have r2 : HalfP H i s (x + 1) z (L ++ [byt s x.toNat / 2 ^ 4, byt s x.toNat % 16]) (H2.set i (rd s (x + 1) z2)) z2 := by
    have hl1 := r1.len
    refine ⟨q3.rdr, by have := q3.own; rwa [List.append_assoc] at this, q3.ne, by have := q3.len; omega, fun j hj hji hzj => ?_, fun k hk => ?_, fun a => q3.tight (r1.tight a)⟩
    · have hz1 : objOf z1 ≠ some j := fun hh => by
        rcases r1.obj j hh with h3 | h3
        · exact hzj h3
        · omega
      rw [q3.oth j (by omega) hji hz1, r1.oth j hj hji hzj]
    · rcases q3.obj k hk with h3 | h3
      · exact r1.obj k h3
      · exact .inr (by omega)
  have pz1 := own_plain p3.own
  have pz2 := own_plain q3.own
  refine acalls_of_wk hm Try.func41 rfl ?_
  simp only [Try.ntmps41, List.length_cons, List.length_nil, Nat.reduceAdd, Nat.reduceSub, List.reduceReplicate, List.cons_append, List.nil_append]
  show wk _ _ none _ _ ⟨_, []⟩ _
  with_reducible refine s_seq ?_
  with_reducible refine s_reg ?_
  refine smove ?_
  simp only [pu', p0', c1', c0', i1', z0', b8_nat]
  refine snilP ?_
  simp only [pu', p0', c1', c0', i1', z0', b8_nat]
  refine sfad ?_
  simp only [pu', p0', c1', c0', i1', z0', b8_nat]
  refine sX (hx := rfl) (next_any _ _ _ _ _ hi h0 h1 h2) ?_
  simp only [pu', p0', c1', c0', i1', n0', n3', n1', n2', a2', a1', a0', n4', Nat.reduceAdd, z0', n5', sa0, sa1, sa2, sa3, sa4, sa5, sa6, sa7, sa8, sa9, sa10, sa11]
  refine sassign ?_
  simp only [pu', p0', c1', c0', i1', z0', b8_nat]
  with_reducible refine s_end ?_
  with_reducible refine s_then ?_
  with_reducible refine s_seq ?_
  with_reducible refine s_reg ?_
  refine smove ?_
  simp only [pu', p0', c1', c0', i1', z0', b8_nat]
  refine smove ?_
  simp only [pu', p0', c1', c0', i1', z0', b8_nat]
  refine snilP ?_
  simp only [pu', p0', c1', c0', i1', z0', b8_nat]
  refine sfad ?_
  simp only [pu', p0', c1', c0', i1', z0', b8_nat]
  refine sload1 ?_
  simp only [pu', p0', c1', c0', i1', z0', b8_nat]
  refine smove ?_
  simp only [pu', p0', c1', c0', i1', z0', b8_nat]
  refine sshr ?_
  simp only [pu', p0', c1', c0', i1', z0', b8_nat]
  refine sbsl ?_
  simp only [pu', p0', c1', c0', i1', n0', n3', n1', n2', a2', a1', a0', n4', Nat.reduceAdd, z0', n5', sa0, sa1, sa2, sa3, sa4, sa5, sa6, sa7, sa8, sa9, sa10, sa11]
  refine s_gH (by rfl) (x_app (by exact e_any (by rfl)) (by exact e_any (by rfl)) p1) ?_
  simp only [Fr.put, List.set_cons_succ, List.set_cons_zero, Int.toNat_natCast, Nat.zero_add]
  focus
    refine snilP ?_
    simp only [pu', p0', c1', c0', i1', z0', b8_nat]
    refine sfad ?_
    simp only [pu', p0', c1', c0', i1', z0', b8_nat]
    (refine sstore1 (hp := pz1) ?_; simp only [Fr.put, List.set_cons_succ, List.set_cons_zero, Int.toNat_natCast, List.length_append, List.length_set, List.length_cons, List.length_nil, List.nil_append, List.cons_append, List.append_assoc, List.length_replicate, Nat.reduceAdd, Nat.zero_add, Nat.add_assoc, sa0, sa1, sa2, sa3, sa4, sa5, sa6, sa7, sa8, sa9, sa10, sa11])
    with_reducible refine s_end ?_
    with_reducible refine s_then ?_
    with_reducible refine s_seq ?_
    with_reducible refine s_reg ?_
    refine smove ?_
    simp only [pu', p0', c1', c0', i1', z0', b8_nat]
    refine sGt (fun hb => ?_) (fun hb => ?_)
    replace hb := dT' hb
    simp only [pu', p0', c1', c0', i1', z0', b8_nat]
    with_reducible refine s_end ?_
    with_reducible refine s_then ?_
    refine sCT ?_
    with_reducible refine s_reg ?_
    refine smove ?_
    simp only [pu', p0', c1', c0', i1', z0', b8_nat]
    refine smove ?_
    simp only [pu', p0', c1', c0', i1', z0', b8_nat]
    refine snilP ?_
    simp only [pu', p0', c1', c0', i1', z0', b8_nat]
    refine sfad ?_
    simp only [pu', p0', c1', c0', i1', z0', b8_nat]
    refine sload1 ?_
    simp only [pu', p0', c1', c0', i1', z0', b8_nat]
    refine smove ?_
    simp only [pu', p0', c1', c0', i1', z0', b8_nat]
    refine sand ?_
    simp only [pu', p0', c1', c0', i1', z0', b8_nat]
    refine sbsl ?_
    simp only [pu', p0', c1', c0', i1', n0', n3', n1', n2', a2', a1', a0', n4', Nat.reduceAdd, z0', n5', sa0, sa1, sa2, sa3, sa4, sa5, sa6, sa7, sa8, sa9, sa10, sa11]
    rotate_left 1
    replace hb := dF' hb
    simp only [pu', p0', c1', c0', i1', z0', b8_nat]
    with_reducible refine s_end ?_
    with_reducible refine s_then ?_
    refine sCF ?_
    with_reducible refine s_skip ?_
    rotate_left 1
  · simp only [h15]
    refine s_gH (by rfl) (x_app (by exact e_any (by rfl)) (by exact e_any (by rfl)) q1) ?_
    simp only [Fr.put, List.set_cons_succ, List.set_cons_zero, Int.toNat_natCast, Nat.zero_add]
    refine snilP ?_
    simp only [pu', p0', c1', c0', i1', z0', b8_nat]
    refine sfad ?_
    simp only [pu', p0', c1', c0', i1', z0', b8_nat]
    (refine sstore1 (hp := pz2) ?_; simp only [Fr.put, List.set_cons_succ, List.set_cons_zero, Int.toNat_natCast, List.length_append, List.length_set, List.length_cons, List.length_nil, List.nil_append, List.cons_append, List.append_assoc, List.length_replicate, Nat.reduceAdd, Nat.zero_add, Nat.add_assoc, sa0, sa1, sa2, sa3, sa4, sa5, sa6, sa7, sa8, sa9, sa10, sa11])
    with_reducible refine s_end ?_
    all_goals (try with_reducible refine w_n ?_)
    refine w_0 rfl ⟨z2, ?_⟩
    rw [hlf, if_pos (by omega)]; exact r2
  · all_goals (try with_reducible refine w_n ?_)
    refine w_0 rfl ⟨z1, ?_⟩
    rw [hlf, if_neg (by omega)]; exact r1
end Go.Proofs.Ytckljanplahbkaa
