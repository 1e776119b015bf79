/-
  A part of the proof of a statement of a chapter's seat; conditions: stated at each theorem.
-/
import Derived.Test.YtfcgmkpihmiadaaP11
import Derived.Test.YtfcgmkpihmiadaaAzR
set_option linter.unusedVariables false
set_option linter.unusedSectionVars false
set_option linter.unusedSimpArgs false
set_option linter.unusedVariables false
set_option maxRecDepth 100000
set_option maxHeartbeats 8000000
namespace Go.Proofs.Ytfcgmkpihmiadaa
open Go.Az Go
/-! ### Pools are built -/
theorem bd_26 {a b c : AV} (x : SlC a) (y : SlC b) (z : SlC c) (o : Int) : bld Try.prog 26 [(0, a), (1, b), (2, c), (3, I o)] = some (PA a b c o) := by
  rcases x.p with rfl | ⟨i1, o1, n1, c1, u1, rfl⟩ <;> rcases y.p with rfl | ⟨i2, o2, n2, c2, u2, rfl⟩ <;> rcases z.p with rfl | ⟨i3, o3, n3, c3, u3, rfl⟩ <;> kernel_rfl
instance {a b c : AV} [x : SlC a] [y : SlC b] [z : SlC c] {o : Int} : BD Try.prog 26 [(0, a), (1, b), (2, c), (3, I o)] (PA a b c o) := ⟨bd_26 x y z o⟩
theorem bd_26z : bld Try.prog 26 [] = some (PA nilS nilS nilS 0) := by kernel_rfl
instance : BD Try.prog 26 [] (PA nilS nilS nilS 0) := ⟨bd_26z⟩
theorem bd_26u {a : AV} (x : SlC a) : bld Try.prog 26 [(0, a)] = some (PA a nilS nilS 0) := by
  rcases x.p with rfl | ⟨i1, o1, n1, c1, u1, rfl⟩ <;> kernel_rfl
instance {a : AV} [x : SlC a] : BD Try.prog 26 [(0, a)] (PA a nilS nilS 0) := ⟨bd_26u x⟩
theorem fd_26 (a b c d : AV) : fld Try.prog 26 (.agg [a, b, c, d]) 2 = some c := by kernel_rfl
theorem mk_22 : mkOf Try.prog 22 = some (3, [I 0], 8) := by kernel_rfl
instance : CM Try.prog 22 3 [I 0] 8 := ⟨mk_22⟩
/-! ### How many workers have each job -/
def hsL (ws : List Wk) (n k : Nat) : List Int := (List.range n).map fun (i : Nat) => cnt (ws.take k) (i : Int)
theorem hsL_len (ws : List Wk) (n k : Nat) : (hsL ws n k).length = n := by simp [hsL]
theorem hsL_get (ws : List Wk) (n k i : Nat) (h : i < n) : (hsL ws n k).getD i 0 = cnt (ws.take k) i := by
  rw [hsL, List.getD_eq_getElem?_getD, List.getElem?_map, List.getElem?_range h]; rfl
theorem hsL_0 (ws : List Wk) (n : Nat) : hsL ws n 0 = List.replicate n 0 := by
  refine List.ext_getElem? fun i => ?_
  by_cases h : i < n
  · rw [hsL, List.getElem?_map, List.getElem?_range h, List.getElem?_replicate, if_pos h]; rfl
  · rw [List.getElem?_eq_none (by simp [hsL]; omega), List.getElem?_eq_none (by simp; omega)]
theorem cnt_take {ws : List Wk} {k : Nat} (h : k < ws.length) (i : Int) : cnt (ws.take (k + 1)) i = cnt (ws.take k) i + (if (ws.getD k wk0).j = i then 1 else 0) := sumF_take _ wk0 h
theorem hsL_keep {ws : List Wk} {n k : Nat} (h : k < ws.length) (hj : (ws.getD k wk0).j < 0) : hsL ws n (k + 1) = hsL ws n k := by
  refine List.map_congr_left fun i _ => ?_
  rw [cnt_take h, if_neg (by omega)]; omega
theorem hsL_set {ws : List Wk} {n k : Nat} (h : k < ws.length) (h0 : 0 ≤ (ws.getD k wk0).j) (h1 : (ws.getD k wk0).j < n) : (hsL ws n k).set (ws.getD k wk0).j.toNat ((hsL ws n k).getD (ws.getD k wk0).j.toNat 0 + 1) = hsL ws n (k + 1) := by
  refine List.ext_getElem? fun i => ?_
  rw [List.getElem?_set, hsL_len]
  by_cases hi : i < n
  · rw [hsL_get _ _ _ _ (by omega)]
    have e : (hsL ws n (k + 1))[i]? = some (cnt (ws.take (k + 1)) i) := by rw [hsL, List.getElem?_map, List.getElem?_range hi]; rfl
    have e' : (hsL ws n k)[i]? = some (cnt (ws.take k) i) := by rw [hsL, List.getElem?_map, List.getElem?_range hi]; rfl
    rw [e, e', cnt_take h]
    by_cases hj : (ws.getD k wk0).j.toNat = i
    · rw [if_pos hj, if_pos (by omega), if_pos (by omega), hj]
    · rw [if_neg hj, if_neg (by omega)]; simp
  · rw [if_neg (by omega), List.getElem?_eq_none (by rw [hsL_len]; omega), List.getElem?_eq_none (by rw [hsL_len]; omega)]
theorem cnt_le : ∀ (ws : List Wk) (i : Int), cnt ws i ≤ ws.length
  | [], i => by simp [cnt, sumF]
  | w :: r, i => by
    have := cnt_le r i
    simp only [cnt, sumF, List.length_cons] at this ⊢
    split <;> omega
theorem hsL_bd (ws : List Wk) (n k j : Nat) : 0 ≤ (hsL ws n k).getD j 0 ∧ (hsL ws n k).getD j 0 ≤ ws.length := by
  by_cases h : j < n
  · rw [hsL_get _ _ _ _ h]
    have h1 := cnt_le (ws.take k) j
    have h2 := cnt_nn (ws.take k) j
    rw [List.length_take] at h1
    omega
  · rw [List.getD_eq_getElem?_getD, List.getElem?_eq_none (by rw [hsL_len]; omega)]; simp
theorem overN_of {ts : List Tk} {n : Nat} (h : n ≤ ts.length) (h1 : ∀ i, i < n → (ts.getD i tk0).o = true) (h2 : ¬ (n < ts.length ∧ (ts.getD n tk0).o = true)) : overN ts = n :=
  overN_eq h1 h fun hn => by
    cases ho : (ts.getD n tk0).o
    · rfl
    · exact absurd ⟨hn, ho⟩ h2
/-! ### The state of a pool -/
def StP (p : Pl) : Prop := p.out = overN p.ts ∧ (p.ts.length : Int) = admN p ∧ Cells p
instance (p : Pl) : Decidable (StP p) := by unfold StP; infer_instance
theorem adm_eqlen {p : Pl} (h : (adQ p).ts.length = p.ts.length) (h1 : 1 ≤ p.us.length) : ¬ (p.ts.length : Int) < admN p := by
  intro hc
  obtain ⟨n, hn⟩ : ∃ n, p.us.length = n + 1 := ⟨p.us.length - 1, by omega⟩
  rw [adQ, hn, adm_go hc] at h
  have := (adm_keep n ⟨p.us, p.ws, p.ts ++ [newT (p.us.getD p.ts.length 0)], p.out⟩).2.2.2
  simp only [List.length_append, List.length_singleton] at this
  omega
theorem own_in {h X : Hp} {L : List Pc} (p : Pl) (su sw st : AV) (S : Sep h X L) (a : EI X su p.us) (b : EK X sw p.ws) (c : ET X st p.ts) (hf : Fits p) : ACalls Try.prog 39 [PA su sw st p.out] X (fun r h' => ∃ zu zw zt, r = PA zu zw zt p.out ∧ SlC zu ∧ SlC zw ∧ SlC zt ∧ Sep h h' (L ++ [WI zu p.us, WK zw p.ws, WT zt p.ts])) :=
  (own_any X p su sw st hf).mono fun r h' _ hh => by
    obtain ⟨zu, zw, zt, h1, h2, h3, h4, h5⟩ := hh
    exact ⟨zu, zw, zt, h1, h2, h3, h4, S.join h5⟩
theorem em_stop_lp {h G0 : Hp} {ip ic il : Nat} {L L1 L2 L3 E : List Pc} {tm : List AV} {ps : Array Tmp} {asg bd : Code} {d : Nat} (E2 : List Pc) (p : Pl) (su sw z : AV) (S : Sep h G0 L) (t1 : TakeC L ip (.cells [su, sw, z, I p.out] 26 true) L1) (t2 : TakeC L1 ic (.cells [.ptr ip 0] 66 true) L2) (t3 : TakeC L2 il (.loop .ready none tm ps asg bd d) L3) (t4 : TakeW Tk L3 z encT 4 68 p.ts E) (a : QI h E su p.us) (b : QK h E sw p.ws) (pz : SlC z) (pu : SlC su) (pw : SlC sw) (hf : Fits p) (ho : 0 ≤ p.out ∧ p.out < 1000000)
    (hy : ∀ X z', SlC z' → Sep h X (WT z' (emN p).ts :: CP ip su sw z' (p.out + 1) :: pcC ic (.cells [.ptr ip 0] 66 true) :: pcC il (.loop .ready none tm ps asg bd d) :: E) → AYld Try.prog il [I p.out] X (fun r h' => r = B false ∧ Sep h h' (pcC il (.loop .done (some .ret) tm ps asg bd d) :: E2))) :
    ACalls Try.prog 63 [.yld il, .ptr ic 0] G0 (fun _ h' => (emC p ∧ Sep h h' (pcC il (.loop .done (some .ret) tm ps asg bd d) :: E2)) ∨ (¬ emC p ∧ h' = G0)) :=
  em_stop p su sw z _ E (S.take4 t1.tp t2.tp t3.tp t4.tp) a b pz pu pw hf ho hy
structure StB where
  k : Nat
  G : Hp
theorem state_any (X : Hp) (p : Pl) (su sw st : AV) (a : EI X su p.us) (b : EK X sw p.ws) (c : ET X st p.ts) (hg : givE p.ws.length p.us = 0) (hw : ckW p.ts p.ws = 0) : ACalls Try.prog 48 [PA su sw st p.out] X (fun r h' => r = B (decide (StP p)) ∧ h' = X) := by
  obtain ⟨g1, g2, g3⟩ := (givE_iff _ _).1 hg
  have hck := (ckW_iff _ _).1 hw
  have hjb := (ck_ok (hck 0 (by omega))).2.1
  have hjr := fun k hk => (ck_ok (hck k hk)).2.2
  have hf : Fits p := ⟨by omega, by omega, by omega⟩
  have hov := overN_le p.ts
  have hov2 := overN_at p.ts
  have hadm : admN p = min (p.us.length : Int) (p.out + p.ws.length + 2) := rfl
  have hal := adm_eqlen (p := p)
  have hno := adm_no (p := p) (n := p.us.length)
  have hcp : emC p ↔ p.out < p.ts.length ∧ (p.ts.getD p.out.toNat tk0).o = true := Iff.rfl
  obtain ⟨us, ws, ts, out⟩ := p
  simp only [] at a b c g1 g2 g3 hjb hjr hov hov2 hadm hal hno ⊢
  have pu := a.p.sl
  have pw := b.p.sl
  have pt := c.p.sl
  have S0 := Sep.nil X
  refine acalls_back ?_
  refine acalls_of_wk hm Try.func48 rfl ?_
  simp only [Try.ntmps48, List.length_cons, List.length_nil, Nat.reduceAdd, Nat.reduceSub, List.reduceReplicate, List.cons_append, List.nil_append]
  show wk _ _ none _ _ ⟨_, []⟩ _
  focus
    with_reducible refine s_seq ?_
    with_reducible refine s_reg ?_
    refine sboxA ?_
    simp only [pu', p0', c1', c0', i1', n0', n3', n1', n2', a2', a1', a0', n4', Nat.reduceAdd, z0', n5', sa0, sa1, sa2, sa3, sa4, sa5, sa6, sa7, sa8, sa9, sa10, sa11]
    refine salloc ?_
    simp only [pu', p0', c1', c0', i1', n0', n3', n1', n2', a2', a1', a0', n4', Nat.reduceAdd, z0', n5', sa0, sa1, sa2, sa3, sa4, sa5, sa6, sa7, sa8, sa9, sa10, sa11]
    with_reducible refine s_end ?_
    with_reducible refine s_then ?_
    with_reducible refine s_seq ?_
    with_reducible refine s_seq ?_
    with_reducible refine s_reg ?_
    refine sfad ?_
    simp only [pu', p0', c1', c0', i1', z0', b8_nat]
    refine sload1 ?_
    simp only [pu', p0', c1', c0', i1', z0', b8_nat]
    refine slenE ?_
    simp only [pu', p0', c1', c0', i1', z0', b8_nat]
    refine sfad ?_
    simp only [pu', p0', c1', c0', i1', z0', b8_nat]
    refine sload1 ?_
    simp only [pu', p0', c1', c0', i1', z0', b8_nat]
    refine slenE ?_
    simp only [pu', p0', c1', c0', i1', z0', b8_nat]
    refine sGt (fun hb => ?_) (fun hb => ?_)
    replace hb := dT' hb
    simp only [pu', p0', c1', c0', i1', z0', b8_nat]
    refine smove ?_
    simp only [pu', p0', c1', c0', i1', z0', b8_nat]
    refine sN ?_
    simp only [pu', p0', c1', c0', i1', z0', b8_nat]
    refine sN ?_
    simp only [pu', p0', c1', c0', i1', z0', b8_nat]
    refine sN ?_
    simp only [pu', p0', c1', c0', i1', z0', b8_nat]
    refine spickT ?_
    simp only [pu', p0', c1', c0', i1', z0', b8_nat]
    refine smove ?_
    simp only [pu', p0', c1', c0', i1', z0', b8_nat]
    refine sN ?_
    simp only [pu', p0', c1', c0', i1', z0', b8_nat]
    refine sN ?_
    simp only [pu', p0', c1', c0', i1', z0', b8_nat]
    refine sN ?_
    simp only [pu', p0', c1', c0', i1', z0', b8_nat]
    refine sN ?_
    simp only [pu', p0', c1', c0', i1', z0', b8_nat]
    refine sN ?_
    simp only [pu', p0', c1', c0', i1', z0', b8_nat]
    refine sN ?_
    simp only [pu', p0', c1', c0', i1', z0', b8_nat]
    refine spickT ?_
    simp only [pu', p0', c1', c0', i1', z0', b8_nat]
    refine smove ?_
    simp only [pu', p0', c1', c0', i1', z0', b8_nat]
    refine sN ?_
    simp only [pu', p0', c1', c0', i1', z0', b8_nat]
    refine sN ?_
    simp only [pu', p0', c1', c0', i1', z0', b8_nat]
    refine sN ?_
    simp only [pu', p0', c1', c0', i1', z0', b8_nat]
    refine sN ?_
    simp only [pu', p0', c1', c0', i1', z0', b8_nat]
    refine sN ?_
    simp only [pu', p0', c1', c0', i1', z0', b8_nat]
    refine sN ?_
    simp only [pu', p0', c1', c0', i1', z0', b8_nat]
    refine sN ?_
    simp only [pu', p0', c1', c0', i1', z0', b8_nat]
    refine sN ?_
    simp only [pu', p0', c1', c0', i1', z0', b8_nat]
    refine sN ?_
    simp only [pu', p0', c1', c0', i1', z0', b8_nat]
    refine sN ?_
    simp only [pu', p0', c1', c0', i1', z0', b8_nat]
    refine sN ?_
    simp only [pu', p0', c1', c0', i1', z0', b8_nat]
    refine spickT ?_
    simp only [pu', p0', c1', c0', i1', z0', b8_nat]
    with_reducible refine s_end ?_
    with_reducible refine s_then ?_
    refine sCT ?_
    with_reducible refine s_seq ?_
    with_reducible refine s_reg ?_
    refine sstore1 ?_
    simp only [pu', p0', c1', c0', i1', n0', n3', n1', n2', a2', a1', a0', n4', Nat.reduceAdd, z0', n5', sa0, sa1, sa2, sa3, sa4, sa5, sa6, sa7, sa8, sa9, sa10, sa11]
    with_reducible refine s_end ?_
    with_reducible refine s_then ?_
    with_reducible refine s_ret ?_
    with_reducible refine s_thenR ?_
    rotate_left 1
    replace hb := dF' hb
    simp only [pu', p0', c1', c0', i1', z0', b8_nat]
    refine smove ?_
    simp only [pu', p0', c1', c0', i1', z0', b8_nat]
    refine sfad ?_
    simp only [pu', p0', c1', c0', i1', z0', b8_nat]
    refine sload1 ?_
    simp only [pu', p0', c1', c0', i1', z0', b8_nat]
    refine sLt (fun hb => ?_) (fun hb => ?_)
    replace hb := dT' hb
    simp only [pu', p0', c1', c0', i1', z0', b8_nat]
    refine spickF ?_
    simp only [pu', p0', c1', c0', i1', z0', b8_nat]
    refine smove ?_
    simp only [pu', p0', c1', c0', i1', z0', b8_nat]
    refine sN ?_
    simp only [pu', p0', c1', c0', i1', z0', b8_nat]
    refine sN ?_
    simp only [pu', p0', c1', c0', i1', z0', b8_nat]
    refine sN ?_
    simp only [pu', p0', c1', c0', i1', z0', b8_nat]
    refine sN ?_
    simp only [pu', p0', c1', c0', i1', z0', b8_nat]
    refine sN ?_
    simp only [pu', p0', c1', c0', i1', z0', b8_nat]
    refine sN ?_
    simp only [pu', p0', c1', c0', i1', z0', b8_nat]
    refine spickT ?_
    simp only [pu', p0', c1', c0', i1', z0', b8_nat]
    refine smove ?_
    simp only [pu', p0', c1', c0', i1', z0', b8_nat]
    refine sN ?_
    simp only [pu', p0', c1', c0', i1', z0', b8_nat]
    refine sN ?_
    simp only [pu', p0', c1', c0', i1', z0', b8_nat]
    refine sN ?_
    simp only [pu', p0', c1', c0', i1', z0', b8_nat]
    refine sN ?_
    simp only [pu', p0', c1', c0', i1', z0', b8_nat]
    refine sN ?_
    simp only [pu', p0', c1', c0', i1', z0', b8_nat]
    refine sN ?_
    simp only [pu', p0', c1', c0', i1', z0', b8_nat]
    refine sN ?_
    simp only [pu', p0', c1', c0', i1', z0', b8_nat]
    refine sN ?_
    simp only [pu', p0', c1', c0', i1', z0', b8_nat]
    refine sN ?_
    simp only [pu', p0', c1', c0', i1', z0', b8_nat]
    refine sN ?_
    simp only [pu', p0', c1', c0', i1', z0', b8_nat]
    refine sN ?_
    simp only [pu', p0', c1', c0', i1', z0', b8_nat]
    refine spickT ?_
    simp only [pu', p0', c1', c0', i1', z0', b8_nat]
    with_reducible refine s_end ?_
    with_reducible refine s_then ?_
    refine sCT ?_
    with_reducible refine s_seq ?_
    with_reducible refine s_reg ?_
    refine sstore1 ?_
    simp only [pu', p0', c1', c0', i1', n0', n3', n1', n2', a2', a1', a0', n4', Nat.reduceAdd, z0', n5', sa0, sa1, sa2, sa3, sa4, sa5, sa6, sa7, sa8, sa9, sa10, sa11]
    with_reducible refine s_end ?_
    with_reducible refine s_then ?_
    with_reducible refine s_ret ?_
    with_reducible refine s_thenR ?_
    rotate_left 1
    replace hb := dF' hb
    simp only [pu', p0', c1', c0', i1', z0', b8_nat]
    refine spickF ?_
    simp only [pu', p0', c1', c0', i1', z0', b8_nat]
    refine smove ?_
    simp only [pu', p0', c1', c0', i1', z0', b8_nat]
    refine sfad ?_
    simp only [pu', p0', c1', c0', i1', z0', b8_nat]
    refine sload1 ?_
    simp only [pu', p0', c1', c0', i1', z0', b8_nat]
    refine sfad ?_
    simp only [pu', p0', c1', c0', i1', z0', b8_nat]
    refine sload1 ?_
    simp only [pu', p0', c1', c0', i1', z0', b8_nat]
    refine slenE ?_
    simp only [pu', p0', c1', c0', i1', z0', b8_nat]
    refine sGt (fun hb => ?_) (fun hb => ?_)
    replace hb := dT' hb
    simp only [pu', p0', c1', c0', i1', z0', b8_nat]
    refine spickF ?_
    simp only [pu', p0', c1', c0', i1', z0', b8_nat]
    refine smove ?_
    simp only [pu', p0', c1', c0', i1', z0', b8_nat]
    refine sN ?_
    simp only [pu', p0', c1', c0', i1', z0', b8_nat]
    refine sN ?_
    simp only [pu', p0', c1', c0', i1', z0', b8_nat]
    refine sN ?_
    simp only [pu', p0', c1', c0', i1', z0', b8_nat]
    refine sN ?_
    simp only [pu', p0', c1', c0', i1', z0', b8_nat]
    refine sN ?_
    simp only [pu', p0', c1', c0', i1', z0', b8_nat]
    refine sN ?_
    simp only [pu', p0', c1', c0', i1', z0', b8_nat]
    refine sN ?_
    simp only [pu', p0', c1', c0', i1', z0', b8_nat]
    refine sN ?_
    simp only [pu', p0', c1', c0', i1', z0', b8_nat]
    refine sN ?_
    simp only [pu', p0', c1', c0', i1', z0', b8_nat]
    refine sN ?_
    simp only [pu', p0', c1', c0', i1', z0', b8_nat]
    refine sN ?_
    simp only [pu', p0', c1', c0', i1', z0', b8_nat]
    refine spickT ?_
    simp only [pu', p0', c1', c0', i1', z0', b8_nat]
    with_reducible refine s_end ?_
    with_reducible refine s_then ?_
    refine sCT ?_
    with_reducible refine s_seq ?_
    with_reducible refine s_reg ?_
    refine sstore1 ?_
    simp only [pu', p0', c1', c0', i1', n0', n3', n1', n2', a2', a1', a0', n4', Nat.reduceAdd, z0', n5', sa0, sa1, sa2, sa3, sa4, sa5, sa6, sa7, sa8, sa9, sa10, sa11]
    with_reducible refine s_end ?_
    with_reducible refine s_then ?_
    with_reducible refine s_ret ?_
    with_reducible refine s_thenR ?_
    rotate_left 1
    replace hb := dF' hb
    simp only [pu', p0', c1', c0', i1', z0', b8_nat]
    refine spickF ?_
    simp only [pu', p0', c1', c0', i1', z0', b8_nat]
    refine smove ?_
    simp only [pu', p0', c1', c0', i1', z0', b8_nat]
    refine sfad ?_
    simp only [pu', p0', c1', c0', i1', z0', b8_nat]
    refine sload1 ?_
    simp only [pu', p0', c1', c0', i1', z0', b8_nat]
    refine slenE ?_
    simp only [pu', p0', c1', c0', i1', z0', b8_nat]
    refine sfad ?_
    simp only [pu', p0', c1', c0', i1', z0', b8_nat]
    refine sload1 ?_
    simp only [pu', p0', c1', c0', i1', z0', b8_nat]
    refine ssub ?_
    simp only [pu', p0', c1', c0', i1', z0', b8_nat]
    refine sfad ?_
    simp only [pu', p0', c1', c0', i1', z0', b8_nat]
    refine sload1 ?_
    simp only [pu', p0', c1', c0', i1', z0', b8_nat]
    refine slenE ?_
    simp only [pu', p0', c1', c0', i1', z0', b8_nat]
    refine sadd ?_
    simp only [pu', p0', c1', c0', i1', z0', b8_nat]
    refine sGt (fun hb => ?_) (fun hb => ?_)
    replace hb := dT' hb
    simp only [pu', p0', c1', c0', i1', z0', b8_nat]
    refine spickF ?_
    simp only [pu', p0', c1', c0', i1', z0', b8_nat]
    with_reducible refine s_end ?_
    with_reducible refine s_then ?_
    refine sCT ?_
    with_reducible refine s_seq ?_
    with_reducible refine s_reg ?_
    refine sstore1 ?_
    simp only [pu', p0', c1', c0', i1', n0', n3', n1', n2', a2', a1', a0', n4', Nat.reduceAdd, z0', n5', sa0, sa1, sa2, sa3, sa4, sa5, sa6, sa7, sa8, sa9, sa10, sa11]
    with_reducible refine s_end ?_
    with_reducible refine s_then ?_
    with_reducible refine s_ret ?_
    with_reducible refine s_thenR ?_
    rotate_left 1
    replace hb := dF' hb
    simp only [pu', p0', c1', c0', i1', z0', b8_nat]
    refine spickF ?_
    simp only [pu', p0', c1', c0', i1', z0', b8_nat]
    with_reducible refine s_end ?_
    with_reducible refine s_then ?_
    refine sCF ?_
    with_reducible refine s_skip ?_
    with_reducible refine s_then ?_
    with_reducible refine s_seq ?_
    with_reducible refine s_reg ?_
    refine sfad ?_
    simp only [pu', p0', c1', c0', i1', z0', b8_nat]
    refine sload1 ?_
    simp only [pu', p0', c1', c0', i1', z0', b8_nat]
    refine sassign ?_
    simp only [pu', p0', c1', c0', i1', z0', b8_nat]
    with_reducible refine s_end ?_
    with_reducible refine s_then ?_
    with_reducible refine s_seq ?_
    with_reducible refine s_seq ?_
    (refine s_regT (id := 4) (.light 0 (.light 1 (.light 2 (.light 3 (.light 4 (.light 5 (.light 7 (.alt 6 [5] (.light 8 (.alt 9 [5, 8] (.alt 10 [5, 8] (.done) (.no)) (.no))) (.no))))))))) [6, 9, 10] (by kernel_rfl) (by conv => lhs; simp only [pickT, List.getElem?_cons_succ, List.getElem?_cons_zero]) ?_)
    refine tfad ?_
    simp only [pu', p0', c1', c0', i1', z0', b8_nat]
    refine tload1 ?_
    simp only [pu', p0', c1', c0', i1', z0', b8_nat]
    refine tfad ?_
    simp only [pu', p0', c1', c0', i1', z0', b8_nat]
    refine tload1 ?_
    simp only [pu', p0', c1', c0', i1', z0', b8_nat]
    refine tfad ?_
    simp only [pu', p0', c1', c0', i1', z0', b8_nat]
    refine tload1 ?_
    simp only [pu', p0', c1', c0', i1', z0', b8_nat]
    refine tmove ?_
    simp only [pu', p0', c1', c0', i1', z0', b8_nat]
    refine uC (hx := rfl) ((cloneT_in st ts (by omega)).mono ?_)
    rintro _ m58 _ ⟨zt, rfl, pzt, S1⟩
    refine ⟨(by repeat' first | exact trivial | refine ⟨.inl rfl, ?_⟩ | refine ⟨.inr (ha_same inferInstance inferInstance), ?_⟩), ?_⟩
    simp only [pu', p0', c1', c0', i1', n0', n3', n1', n2', a2', a1', a0', n4', Nat.reduceAdd, z0', n5', sa0, sa1, sa2, sa3, sa4, sa5, sa6, sa7, sa8, sa9, sa10, sa11]
    refine tbuild ?_
    simp only [pu', p0', c1', c0', i1', z0', b8_nat]
    refine uboxA ?_
    simp only [pu', p0', c1', c0', i1', n0', n3', n1', n2', a2', a1', a0', n4', Nat.reduceAdd, z0', n5', sa0, sa1, sa2, sa3, sa4, sa5, sa6, sa7, sa8, sa9, sa10, sa11]
    refine uC (hx := rfl) ((emitted_mk _ _).mono ?_)
    rintro _ m41 _ ⟨rfl, rfl⟩
    refine ⟨(by repeat' first | exact trivial | refine ⟨.inl rfl, ?_⟩ | refine ⟨.inr (ha_same inferInstance inferInstance), ?_⟩), ?_⟩
    simp only [pu', p0', c1', c0', i1', n0', n3', n1', n2', a2', a1', a0', n4', Nat.reduceAdd, z0', n5', sa0, sa1, sa2, sa3, sa4, sa5, sa6, sa7, sa8, sa9, sa10, sa11]
    with_reducible refine t_end ?_
    with_reducible refine s_then ?_
    with_reducible refine s_block ?_
    rotate_left 1
  · all_goals try with_reducible refine w_n ?_
    all_goals refine w_1 rfl (by first | exact v_t (by rfl) | exact v_c1 (C1.p) (by rfl) (HA.p) (by rfl) | exact v_cF (CA.p) (by rfl) (HA.p) (by rfl)) ?_
    exact ⟨rfl, Sep.ext, by rw [decide_eq_false (fun hh : StP _ => by obtain ⟨h1, h2, _⟩ := hh; simp only [] at h1 h2; omega)], trivial⟩
  · all_goals try with_reducible refine w_n ?_
    all_goals refine w_1 rfl (by first | exact v_t (by rfl) | exact v_c1 (C1.p) (by rfl) (HA.p) (by rfl) | exact v_cF (CA.p) (by rfl) (HA.p) (by rfl)) ?_
    exact ⟨rfl, Sep.ext, by rw [decide_eq_false (fun hh : StP _ => by obtain ⟨h1, h2, _⟩ := hh; simp only [] at h1 h2; omega)], trivial⟩
  · all_goals try with_reducible refine w_n ?_
    all_goals refine w_1 rfl (by first | exact v_t (by rfl) | exact v_c1 (C1.p) (by rfl) (HA.p) (by rfl) | exact v_cF (CA.p) (by rfl) (HA.p) (by rfl)) ?_
    exact ⟨rfl, Sep.ext, by rw [decide_eq_false (fun hh : StP _ => by obtain ⟨h1, h2, _⟩ := hh; simp only [] at h1 h2; omega)], trivial⟩
  · all_goals try with_reducible refine w_n ?_
    all_goals refine w_1 rfl (by first | exact v_t (by rfl) | exact v_c1 (C1.p) (by rfl) (HA.p) (by rfl) | exact v_cF (CA.p) (by rfl) (HA.p) (by rfl)) ?_
    exact ⟨rfl, Sep.ext, by rw [decide_eq_false (fun hh : StP _ => by obtain ⟨h1, h2, _⟩ := hh; simp only [] at h1 h2; omega)], trivial⟩
  refine s_range ?_
  simp only [Fr.put, List.set_cons_succ, List.set_cons_zero, Int.toNat_natCast, List.length_append, List.length_set, List.length_cons, List.length_nil, List.nil_append, List.cons_append, List.append_assoc, List.length_replicate, Nat.reduceAdd, Nat.zero_add, Nat.add_assoc, sa0, sa1, sa2, sa3, sa4, sa5, sa6, sa7, sa8, sa9, sa10, sa11]
  refine (em_stop_lp (h := X) (ip := m58.length) [pcC X.length (.cells [su, sw, st, I out] 26 true), pcC (X.length + 1) (.cells [B false] 4 true), pcC (m58.length + 2) .dfr] ⟨us, ws, ts, out⟩ su sw zt inferInstance inferInstance inferInstance inferInstance inferInstance inferInstance inferInstance pzt pu pw hf (by simp only []; omega) ?_).mono ?_
  · intro Y z' pz' S2
    refine ayld_at1 hm inferInstance ?_
    simp only [Fr.put, List.set_cons_succ, List.set_cons_zero, Int.toNat_natCast, Nat.zero_add]
    with_reducible refine s_skip ?_
    refine asg_n hm inferInstance ?_
    with_reducible refine s_block ?_
    with_reducible refine s_seq ?_
    with_reducible refine s_reg ?_
    refine sstore1 ?_
    simp only [pu', p0', c1', c0', i1', n0', n3', n1', n2', a2', a1', a0', n4', Nat.reduceAdd, z0', n5', sa0, sa1, sa2, sa3, sa4, sa5, sa6, sa7, sa8, sa9, sa10, sa11]
    with_reducible refine s_end ?_
    with_reducible refine s_then ?_
    with_reducible refine s_ret ?_
    with_reducible refine s_blkR ?_
    refine rnd_r inferInstance ⟨rfl, Sep.sub (Sep.take4 inferInstance (TakeC.tp (i := m58.length + 3) inferInstance) (TakeC.tp (i := X.length) inferInstance) (TakeC.tp (i := X.length + 1) inferInstance) (TakeC.tp (i := m58.length + 2) inferInstance)) (by repeat' first | exact List.Sublist.refl _ | exact List.sublist_append_left _ _ | exact List.nil_sublist _ | refine List.Sublist.cons_cons _ ?_ | refine List.Sublist.cons _ ?_ | refine List.Sublist.trans ?_ (List.sublist_append_left _ _))⟩
  · rintro _ Y _ (⟨he, S2⟩ | ⟨he, rfl⟩)
    · refine beh_c hm ?_ inferInstance rfl
      with_reducible refine s_ret ?_
      with_reducible refine s_blkR ?_
      with_reducible refine s_thenR ?_
      refine rk_dfr ?_ inferInstance
      all_goals try with_reducible refine w_n ?_
      all_goals refine w_1 rfl (by first | exact v_t (by rfl) | exact v_c1 (C1.p) (by rfl) (HA.p) (by rfl) | exact v_cF (CA.p) (by rfl) (HA.p) (by rfl)) ?_
      exact ⟨rfl, Sep.ext, by rw [decide_eq_false (fun hh : StP _ => by obtain ⟨h1, h2, _⟩ := hh; simp only [] at h1 h2; have := hov2 (by have := he.1; simp only [] at this; omega); rw [show overN ts = out.toNat by omega, he.2] at this; cases this)], trivial⟩
    · refine beh_n ?_ inferInstance rfl
      focus
        with_reducible refine s_blkN ?_
        with_reducible refine s_then ?_
        with_reducible refine s_seq ?_
        with_reducible refine s_seq ?_
        (refine s_regT (id := 6) (.light 0 (.light 5 (.light 6 (.light 7 (.alt 1 [0] (.alt 2 [0] (.light 3 (.light 4 (.light 8 (.done)))) (.no)) (.no)))))) [1, 2] (by kernel_rfl) (by conv => lhs; simp only [pickT, List.getElem?_cons_succ, List.getElem?_cons_zero]) ?_)
        refine tloadW ?_
        simp only [pu', p0', c1', c0', i1', z0', b8_nat]
        refine tfad ?_
        simp only [pu', p0', c1', c0', i1', z0', b8_nat]
        refine tload1 ?_
        simp only [pu', p0', c1', c0', i1', z0', b8_nat]
        refine tlenE ?_
        simp only [pu', p0', c1', c0', i1', z0', b8_nat]
        refine uC (hx := rfl) ((own_in ⟨us, ws, ts, out⟩ su sw st inferInstance inferInstance inferInstance inferInstance hf).mono ?_)
        rintro _ m39 _ ⟨zu, zw, zs, rfl, pzu, pzw, pzs, S3⟩
        refine ⟨(by repeat' first | exact trivial | refine ⟨.inl rfl, ?_⟩ | refine ⟨.inr (ha_same inferInstance inferInstance), ?_⟩), ?_⟩
        simp only [pu', p0', c1', c0', i1', n0', n3', n1', n2', a2', a1', a0', n4', Nat.reduceAdd, z0', n5', sa0, sa1, sa2, sa3, sa4, sa5, sa6, sa7, sa8, sa9, sa10, sa11]
        refine uC (hx := rfl) ((admit_in ⟨us, ws, ts, out⟩ zu zw zs inferInstance inferInstance inferInstance inferInstance pzs pzu pzw hf (by simp only []; omega)).mono ?_)
        rintro _ m42 _ ⟨z1, rfl, pz1, S4⟩
        refine ⟨(by repeat' first | exact trivial | refine ⟨.inl rfl, ?_⟩ | refine ⟨.inr (ha_same inferInstance inferInstance), ?_⟩), ?_⟩
        simp only [pu', p0', c1', c0', i1', n0', n3', n1', n2', a2', a1', a0', n4', Nat.reduceAdd, z0', n5', sa0, sa1, sa2, sa3, sa4, sa5, sa6, sa7, sa8, sa9, sa10, sa11]
        (refine t_gL (by rfl) (x_fldG (by exact e_any (by rfl)) (fd_26 _ _ _ _)) ?_ (by rfl); simp only [Fr.put, List.set_cons_succ, List.set_cons_zero, Int.toNat_natCast, Nat.zero_add])
        refine tlenE ?_
        simp only [pu', p0', c1', c0', i1', z0', b8_nat]
        refine tNe (fun hb => ?_) (fun hb => ?_)
        replace hb := dT' hb
        simp only [pu', p0', c1', c0', i1', z0', b8_nat]
        with_reducible refine t_end ?_
        with_reducible refine s_then ?_
        refine sCT ?_
        with_reducible refine s_seq ?_
        with_reducible refine s_reg ?_
        refine sstore1 ?_
        simp only [pu', p0', c1', c0', i1', n0', n3', n1', n2', a2', a1', a0', n4', Nat.reduceAdd, z0', n5', sa0, sa1, sa2, sa3, sa4, sa5, sa6, sa7, sa8, sa9, sa10, sa11]
        with_reducible refine s_end ?_
        with_reducible refine s_then ?_
        with_reducible refine s_ret ?_
        with_reducible refine s_thenR ?_
        rotate_left 1
        replace hb := dF' hb
        simp only [pu', p0', c1', c0', i1', z0', b8_nat]
        with_reducible refine t_end ?_
        with_reducible refine s_then ?_
        refine sCF ?_
        with_reducible refine s_skip ?_
        with_reducible refine s_then ?_
        with_reducible refine s_seq ?_
        with_reducible refine s_reg ?_
        refine sfad ?_
        simp only [pu', p0', c1', c0', i1', z0', b8_nat]
        refine sload1 ?_
        simp only [pu', p0', c1', c0', i1', z0', b8_nat]
        refine slenE ?_
        simp only [pu', p0', c1', c0', i1', z0', b8_nat]
        (refine s_mks (n := (ts.length : Int)) (encI .i64) (0 : Int) (fun z Y' pz S5 => ?_) inferInstance iok inferInstance rfl (by omega) (by omega) (by omega); simp only [i1'] at S5; simp only [Fr.put, List.set_cons_succ, List.set_cons_zero, Int.toNat_natCast, Nat.zero_add])
        refine sassign ?_
        simp only [pu', p0', c1', c0', i1', z0', b8_nat]
        with_reducible refine s_end ?_
        with_reducible refine s_then ?_
        with_reducible refine s_seq ?_
        with_reducible refine s_seq ?_
        with_reducible refine s_reg ?_
        refine sfad ?_
        simp only [pu', p0', c1', c0', i1', z0', b8_nat]
        refine sload1 ?_
        simp only [pu', p0', c1', c0', i1', z0', b8_nat]
        refine slenE ?_
        simp only [pu', p0', c1', c0', i1', z0', b8_nat]
        refine smove ?_
        simp only [pu', p0', c1', c0', i1', z0', b8_nat]
        with_reducible refine s_end ?_
        with_reducible refine s_then ?_
        with_reducible refine s_block ?_
        rotate_left 1
      · refine rk_dfr ?_ inferInstance
        all_goals try with_reducible refine w_n ?_
        all_goals refine w_1 rfl (by first | exact v_t (by rfl) | exact v_c1 (C1.p) (by rfl) (HA.p) (by rfl) | exact v_cF (CA.p) (by rfl) (HA.p) (by rfl)) ?_
        exact ⟨rfl, Sep.ext, by rw [decide_eq_false (fun hh : StP _ => by obtain ⟨h1, h2, _⟩ := hh; simp only [] at h1 h2; have e : adQ ⟨us, ws, ts, out⟩ = ⟨us, ws, ts, out⟩ := hno (by omega); rw [e] at hb; exact hb rfl)], trivial⟩
      have hbeq : ¬ (ts.length : Int) < admN ⟨us, ws, ts, out⟩ := hal (by omega) (by omega)
      have hlen : (ts.length : Int) = admN ⟨us, ws, ts, out⟩ := by omega
      rw [← hsL_0 ws ts.length] at S5
      refine s_loop hm (fun (b : StB) s' => [PA su sw st out, .ptr X.length 0, .ptr (X.length + 1) 0, I out, z, s' 5, s' 6, s' 7, s' 8, s' 9, s' 10, s' 11, s' 12, s' 13, s' 14, s' 15, s' 16, s' 17, s' 18, s' 19, s' 20, s' 21, s' 22, s' 23, s' 24, s' 25, s' 26, s' 27, s' 28, s' 29, s' 30, s' 31, s' 32, s' 33, s' 34, s' 35, s' 36, s' 37, s' 38, s' 39, s' 40, s' 41, s' 42, s' 43, s' 44, s' 45, s' 46, s' 47, s' 48, s' 49, s' 50, s' 51, s' 52, s' 53, s' 54, s' 55, s' 56, s' 57, s' 58, s' 59, s' 60, s' 61, s' 62, s' 63, s' 64, s' 65, s' 66, s' 67, s' 68, s' 69, s' 70, sw, I ws.length, I b.k, s' 74, s' 75, s' 76, s' 77, s' 78, s' 79, s' 80, s' 81, s' 82, s' 83, s' 84, s' 85, s' 86, s' 87, s' 88, s' 89, s' 90, s' 91, s' 92, s' 93, s' 94, s' 95, s' 96, s' 97, s' 98, s' 99, s' 100, s' 101, s' 102, s' 103, s' 104, s' 105, s' 106, s' 107, s' 108, s' 109, s' 110, s' 111, s' 112, s' 113, s' 114, s' 115, s' 116, s' 117, s' 118, s' 119, s' 120, s' 121, s' 122, s' 123, s' 124, s' 125, s' 126, s' 127, s' 128, s' 129]) (fun b => b.G) (fun b => b.k ≤ ws.length ∧ Sep X b.G [pcC X.length (.cells [su, sw, st, I out] 26 true), pcC (X.length + 1) (.cells [B false] 4 true), pcC (m58.length + 2) .dfr, WI z (hsL ws ts.length b.k)]) (fun b => ws.length - b.k) ⟨0, Y'⟩ (by rfl) rfl ⟨Nat.zero_le _, Sep.sub (Sep.take4 inferInstance (TakeC.tp (i := X.length) inferInstance) (TakeC.tp (i := X.length + 1) inferInstance) (TakeC.tp (i := m58.length + 2) inferInstance) (TakeW.tp (z := z) inferInstance)) (by repeat' first | exact List.Sublist.refl _ | exact List.sublist_append_left _ _ | exact List.nil_sublist _ | refine List.Sublist.cons_cons _ ?_ | refine List.Sublist.cons _ ?_ | refine List.Sublist.trans ?_ (List.sublist_append_left _ _))⟩ ?_
      rintro ⟨k, G⟩ s' ⟨hk, S6⟩
      simp only [] at hk S6 ⊢
      have hjk := hjr k
      have hln := hsL_len ws ts.length k
      have hbd := hsL_bd ws ts.length k (ws.getD k wk0).j.toNat
      focus
        with_reducible refine s_seq ?_
        with_reducible refine s_reg ?_
        refine sLt (fun hb => ?_) (fun hb => ?_)
        replace hb := dT' hb
        simp only [pu', p0', c1', c0', i1', z0', b8_nat]
        with_reducible refine s_end ?_
        with_reducible refine s_then ?_
        with_reducible refine s_seq ?_
        refine sCT ?_
        with_reducible refine s_skip ?_
        with_reducible refine s_then ?_
        with_reducible refine s_seq ?_
        with_reducible refine s_block ?_
        with_reducible refine s_seq ?_
        with_reducible refine s_reg ?_
        refine sidxE ?_
        simp only [pu', p0', c1', c0', i1', z0', b8_nat]
        refine sloadE ?_
        simp only [pu', p0', c1', c0', i1', z0', b8_nat]
        refine salloc ?_
        simp only [pu', p0', c1', c0', i1', n0', n3', n1', n2', a2', a1', a0', n4', Nat.reduceAdd, z0', n5', sa0, sa1, sa2, sa3, sa4, sa5, sa6, sa7, sa8, sa9, sa10, sa11]
        refine sstoreF ?_
        simp only [pu', p0', c1', c0', i1', n0', n3', n1', n2', a2', a1', a0', n4', Nat.reduceAdd, z0', n5', sa0, sa1, sa2, sa3, sa4, sa5, sa6, sa7, sa8, sa9, sa10, sa11]
        with_reducible refine s_end ?_
        with_reducible refine s_then ?_
        with_reducible refine s_seq ?_
        with_reducible refine s_reg ?_
        refine sfad ?_
        simp only [pu', p0', c1', c0', i1', z0', b8_nat]
        refine sload1 ?_
        simp only [pu', p0', c1', c0', i1', z0', b8_nat]
        refine sGe (fun hb => ?_) (fun hb => ?_)
        replace hb := dT' hb
        simp only [pu', p0', c1', c0', i1', z0', b8_nat]
        with_reducible refine s_end ?_
        with_reducible refine s_then ?_
        refine sCT ?_
        with_reducible refine s_reg ?_
        refine smove ?_
        simp only [pu', p0', c1', c0', i1', z0', b8_nat]
        refine sfad ?_
        simp only [pu', p0', c1', c0', i1', z0', b8_nat]
        refine sload1 ?_
        simp only [pu', p0', c1', c0', i1', z0', b8_nat]
        refine sidxE ?_
        simp only [pu', p0', c1', c0', i1', z0', b8_nat]
        refine sloadE1 ?_
        simp only [pu', p0', c1', c0', i1', z0', b8_nat]
        refine sadd ?_
        simp only [pu', p0', c1', c0', i1', z0', b8_nat]
        refine sidxE ?_
        simp only [pu', p0', c1', c0', i1', z0', b8_nat]
        (refine s_stE 3 ((hsL ws ts.length k).getD (ws.getD k wk0).j.toNat 0 + 1) (0 : Int) (fun Y1 T1 => ?_) inferInstance rfl iok inferInstance (by omega) (by omega) (by rfl) inferInstance; simp only [a1', c1', c0'] at T1; simp only [Fr.put, List.set_cons_succ, List.set_cons_zero, Int.toNat_natCast, Nat.zero_add])
        with_reducible refine s_end ?_
        with_reducible refine s_blkN ?_
        with_reducible refine s_then ?_
        with_reducible refine s_reg ?_
        refine sadd ?_
        simp only [pu', p0', c1', c0', i1', z0', b8_nat]
        refine smove ?_
        simp only [pu', p0', c1', c0', i1', z0', b8_nat]
        with_reducible refine s_end ?_
        rotate_left 1
        replace hb := dF' hb
        simp only [pu', p0', c1', c0', i1', z0', b8_nat]
        with_reducible refine s_end ?_
        with_reducible refine s_then ?_
        refine sCF ?_
        with_reducible refine s_skip ?_
        with_reducible refine s_blkN ?_
        with_reducible refine s_then ?_
        with_reducible refine s_reg ?_
        refine sadd ?_
        simp only [pu', p0', c1', c0', i1', z0', b8_nat]
        refine smove ?_
        simp only [pu', p0', c1', c0', i1', z0', b8_nat]
        with_reducible refine s_end ?_
        rotate_left 1
        replace hb := dF' hb
        simp only [pu', p0', c1', c0', i1', z0', b8_nat]
        with_reducible refine s_end ?_
        with_reducible refine s_then ?_
        with_reducible refine s_seq ?_
        refine sCF ?_
        with_reducible refine s_exit ?_
        with_reducible refine s_thenE ?_
        with_reducible refine l_exit ?_
        with_reducible refine s_blkE ?_
        with_reducible refine s_then ?_
        with_reducible refine s_seq ?_
        with_reducible refine s_seq ?_
        with_reducible refine s_reg ?_
        refine sfad ?_
        simp only [pu', p0', c1', c0', i1', z0', b8_nat]
        refine sload1 ?_
        simp only [pu', p0', c1', c0', i1', z0', b8_nat]
        refine slenE ?_
        simp only [pu', p0', c1', c0', i1', z0', b8_nat]
        refine smove ?_
        simp only [pu', p0', c1', c0', i1', z0', b8_nat]
        with_reducible refine s_end ?_
        with_reducible refine s_then ?_
        with_reducible refine s_block ?_
        rotate_left 1
      · rw [hsL_set (by omega) (by omega) (by omega)] at T1
        refine l_next ⟨k + 1, Y1⟩ ⟨by simp only []; omega, Sep.sub T1 (by repeat' first | exact List.Sublist.refl _ | exact List.sublist_append_left _ _ | exact List.nil_sublist _ | refine List.Sublist.cons_cons _ ?_ | refine List.Sublist.cons _ ?_ | refine List.Sublist.trans ?_ (List.sublist_append_left _ _))⟩ (by simp only []; omega) (by rfl) rfl
      · rw [← hsL_keep (by omega) (by omega)] at S6
        refine l_next ⟨k + 1, G ++ [.cells (encW (ws.getD k wk0)) 53 true]⟩ ⟨by simp only []; omega, by simp only []; exact Sep.sub inferInstance (by repeat' first | exact List.Sublist.refl _ | exact List.sublist_append_left _ _ | exact List.nil_sublist _ | refine List.Sublist.cons_cons _ ?_ | refine List.Sublist.cons _ ?_ | refine List.Sublist.trans ?_ (List.sublist_append_left _ _))⟩ (by simp only []; omega) (by rfl) (by rfl)
      obtain rfl : k = ws.length := by omega
      refine s_loop hm (fun (b : StB) s' => [PA su sw st out, .ptr X.length 0, .ptr (X.length + 1) 0, I out, z, s' 5, s' 6, s' 7, s' 8, s' 9, s' 10, s' 11, s' 12, s' 13, s' 14, s' 15, s' 16, s' 17, s' 18, s' 19, s' 20, s' 21, s' 22, s' 23, s' 24, s' 25, s' 26, s' 27, s' 28, s' 29, s' 30, s' 31, s' 32, s' 33, s' 34, s' 35, s' 36, s' 37, s' 38, s' 39, s' 40, s' 41, s' 42, s' 43, s' 44, s' 45, s' 46, s' 47, s' 48, s' 49, s' 50, s' 51, s' 52, s' 53, s' 54, s' 55, s' 56, s' 57, s' 58, s' 59, s' 60, s' 61, s' 62, s' 63, s' 64, s' 65, s' 66, s' 67, s' 68, s' 69, s' 70, s' 71, s' 72, s' 73, s' 74, s' 75, s' 76, s' 77, s' 78, s' 79, s' 80, s' 81, s' 82, s' 83, s' 84, s' 85, s' 86, s' 87, s' 88, st, I ts.length, I b.k, s' 92, s' 93, s' 94, s' 95, s' 96, s' 97, s' 98, s' 99, s' 100, s' 101, s' 102, s' 103, s' 104, s' 105, s' 106, s' 107, s' 108, s' 109, s' 110, s' 111, s' 112, s' 113, s' 114, s' 115, s' 116, s' 117, s' 118, s' 119, s' 120, s' 121, s' 122, s' 123, s' 124, s' 125, s' 126, s' 127, s' 128, s' 129]) (fun b => b.G) (fun b => b.k ≤ ts.length ∧ Sep X b.G [pcC X.length (.cells [su, sw, st, I out] 26 true), pcC (X.length + 1) (.cells [B false] 4 true), pcC (m58.length + 2) .dfr, WI z (hsL ws ts.length ws.length)] ∧ ∀ i, i < b.k → Cell ws us ts i ∧ ((i : Int) < out → (ts.getD i tk0).o = true)) (fun b => ts.length - b.k) ⟨0, G⟩ (by rfl) rfl ⟨Nat.zero_le _, S6, fun i hi => absurd hi (Nat.not_lt_zero _)⟩ ?_
      rintro ⟨k, G⟩ s' ⟨hk, S6, hC⟩
      simp only [] at hk S6 hC ⊢
      have hln := hsL_len ws ts.length ws.length
      have hhk : k < ts.length → (hsL ws ts.length ws.length).getD k 0 = cnt ws k := fun h => by rw [hsL_get _ _ _ _ h, List.take_length]
      have hce : Cell ws us ts k ↔ cnt ws k = wantT (ts.getD k tk0) ∧ (ts.getD k tk0).u = us.getD k 0 := Iff.rfl
      have hw1 : (ts.getD k tk0).f = true → wantT (ts.getD k tk0) = 0 := fun h => if_neg (by rw [h]; simp)
      have hw2 : (ts.getD k tk0).o = true → wantT (ts.getD k tk0) = 0 := fun h => if_neg (by rw [h]; simp)
      have hw3 : (ts.getD k tk0).f = false → (ts.getD k tk0).o = false → wantT (ts.getD k tk0) = 1 := fun h h2 => if_pos ⟨h, h2⟩
      have hN : cnt ws k = wantT (ts.getD k tk0) → (ts.getD k tk0).u = us.getD k 0 → ((k : Int) < out → (ts.getD k tk0).o = true) → ∀ i, i < k + 1 → Cell ws us ts i ∧ ((i : Int) < out → (ts.getD i tk0).o = true) := fun h1 h2 h3 i hi => by
        by_cases he : i = k
        · subst he; exact ⟨hce.2 ⟨h1, h2⟩, h3⟩
        · exact hC i (by omega)
      have hov3 := overN_lt ts k
      focus
        with_reducible refine s_seq ?_
        with_reducible refine s_reg ?_
        refine sLt (fun hb => ?_) (fun hb => ?_)
        replace hb := dT' hb
        simp only [pu', p0', c1', c0', i1', z0', b8_nat]
        with_reducible refine s_end ?_
        with_reducible refine s_then ?_
        with_reducible refine s_seq ?_
        refine sCT ?_
        with_reducible refine s_skip ?_
        with_reducible refine s_then ?_
        with_reducible refine s_seq ?_
        with_reducible refine s_block ?_
        with_reducible refine s_seq ?_
        with_reducible refine s_reg ?_
        refine smove ?_
        simp only [pu', p0', c1', c0', i1', z0', b8_nat]
        refine sidxE ?_
        simp only [pu', p0', c1', c0', i1', z0', b8_nat]
        refine sloadE ?_
        simp only [pu', p0', c1', c0', i1', z0', b8_nat]
        refine salloc ?_
        simp only [pu', p0', c1', c0', i1', n0', n3', n1', n2', a2', a1', a0', n4', Nat.reduceAdd, z0', n5', sa0, sa1, sa2, sa3, sa4, sa5, sa6, sa7, sa8, sa9, sa10, sa11]
        refine sassign ?_
        simp only [pu', p0', c1', c0', i1', z0', b8_nat]
        refine sstoreF ?_
        simp only [pu', p0', c1', c0', i1', n0', n3', n1', n2', a2', a1', a0', n4', Nat.reduceAdd, z0', n5', sa0, sa1, sa2, sa3, sa4, sa5, sa6, sa7, sa8, sa9, sa10, sa11]
        with_reducible refine s_end ?_
        with_reducible refine s_then ?_
        with_reducible refine s_seq ?_
        with_reducible refine s_reg ?_
        refine sassign ?_
        simp only [pu', p0', c1', c0', i1', z0', b8_nat]
        with_reducible refine s_end ?_
        with_reducible refine s_then ?_
        with_reducible refine s_seq ?_
        with_reducible refine s_seq ?_
        with_reducible refine s_reg ?_
        refine sfad ?_
        simp only [pu', p0', c1', c0', i1', z0', b8_nat]
        refine sloadB1 (fun hb => ?_) (fun hb => ?_)
        simp only [pu', p0', c1', c0', i1', z0', b8_nat]
        refine smove ?_
        simp only [pu', p0', c1', c0', i1', z0', b8_nat]
        refine sN ?_
        simp only [pu', p0', c1', c0', i1', z0', b8_nat]
        refine sN ?_
        simp only [pu', p0', c1', c0', i1', z0', b8_nat]
        refine spickT ?_
        simp only [pu', p0', c1', c0', i1', z0', b8_nat]
        with_reducible refine s_end ?_
        with_reducible refine s_then ?_
        refine sCT ?_
        with_reducible refine s_reg ?_
        refine sassign ?_
        simp only [pu', p0', c1', c0', i1', z0', b8_nat]
        with_reducible refine s_end ?_
        with_reducible refine s_then ?_
        with_reducible refine s_seq ?_
        (refine s_regQ (id := 21) [(0, true), (1, true), (2, true), (3, true), (4, true), (5, true), (6, true), (7, true), (8, true), (9, true), (10, true), (11, true), (12, true), (13, true), (14, true), (15, true), (16, true), (17, true), (18, true), (19, true), (20, true), (21, true), (22, true), (23, true), (24, true), (25, true), (26, true)] (by kernel_rfl) (by conv => lhs; simp only [pickO, List.getElem?_cons_succ, List.getElem?_cons_zero]) ?_)
        refine qfad ?_
        simp only [pu', p0', c1', c0', i1', z0', b8_nat]
        refine qload1 ?_
        simp only [pu', p0', c1', c0', i1', z0', b8_nat]
        refine qfad ?_
        simp only [pu', p0', c1', c0', i1', z0', b8_nat]
        refine qload1 ?_
        simp only [pu', p0', c1', c0', i1', z0', b8_nat]
        refine qmove ?_
        simp only [pu', p0', c1', c0', i1', z0', b8_nat]
        refine qidxE ?_
        simp only [pu', p0', c1', c0', i1', z0', b8_nat]
        refine qloadE1 ?_
        simp only [pu', p0', c1', c0', i1', z0', b8_nat]
        refine qNe (fun hb => ?_) (fun hb => ?_)
        replace hb := dT' hb
        simp only [pu', p0', c1', c0', i1', z0', b8_nat]
        refine qmove ?_
        simp only [pu', p0', c1', c0', i1', z0', b8_nat]
        refine qN ?_
        simp only [pu', p0', c1', c0', i1', z0', b8_nat]
        refine qN ?_
        simp only [pu', p0', c1', c0', i1', z0', b8_nat]
        refine qN ?_
        simp only [pu', p0', c1', c0', i1', z0', b8_nat]
        refine qN ?_
        simp only [pu', p0', c1', c0', i1', z0', b8_nat]
        refine qN ?_
        simp only [pu', p0', c1', c0', i1', z0', b8_nat]
        refine qN ?_
        simp only [pu', p0', c1', c0', i1', z0', b8_nat]
        refine qpickT ?_
        simp only [pu', p0', c1', c0', i1', z0', b8_nat]
        refine qmove ?_
        simp only [pu', p0', c1', c0', i1', z0', b8_nat]
        refine qN ?_
        simp only [pu', p0', c1', c0', i1', z0', b8_nat]
        refine qN ?_
        simp only [pu', p0', c1', c0', i1', z0', b8_nat]
        refine qN ?_
        simp only [pu', p0', c1', c0', i1', z0', b8_nat]
        refine qN ?_
        simp only [pu', p0', c1', c0', i1', z0', b8_nat]
        refine qN ?_
        simp only [pu', p0', c1', c0', i1', z0', b8_nat]
        refine qN ?_
        simp only [pu', p0', c1', c0', i1', z0', b8_nat]
        refine qN ?_
        simp only [pu', p0', c1', c0', i1', z0', b8_nat]
        refine qN ?_
        simp only [pu', p0', c1', c0', i1', z0', b8_nat]
        refine qN ?_
        simp only [pu', p0', c1', c0', i1', z0', b8_nat]
        refine qpickT ?_
        simp only [pu', p0', c1', c0', i1', z0', b8_nat]
        with_reducible refine q_end ?_
        with_reducible refine s_then ?_
        refine sCT ?_
        with_reducible refine s_seq ?_
        with_reducible refine s_reg ?_
        refine sstore1 ?_
        simp only [pu', p0', c1', c0', i1', n0', n3', n1', n2', a2', a1', a0', n4', Nat.reduceAdd, z0', n5', sa0, sa1, sa2, sa3, sa4, sa5, sa6, sa7, sa8, sa9, sa10, sa11]
        with_reducible refine s_end ?_
        with_reducible refine s_then ?_
        with_reducible refine s_ret ?_
        with_reducible refine s_blkR ?_
        with_reducible refine s_thenR ?_
        with_reducible refine l_ret ?_
        with_reducible refine s_blkR ?_
        with_reducible refine s_thenR ?_
        rotate_left 1
        replace hb := dF' hb
        simp only [pu', p0', c1', c0', i1', z0', b8_nat]
        refine qmove ?_
        simp only [pu', p0', c1', c0', i1', z0', b8_nat]
        refine qmove ?_
        simp only [pu', p0', c1', c0', i1', z0', b8_nat]
        refine qmove ?_
        simp only [pu', p0', c1', c0', i1', z0', b8_nat]
        refine qidxE ?_
        simp only [pu', p0', c1', c0', i1', z0', b8_nat]
        refine qloadE1 ?_
        simp only [pu', p0', c1', c0', i1', z0', b8_nat]
        refine qmove ?_
        simp only [pu', p0', c1', c0', i1', z0', b8_nat]
        refine qNe (fun hb => ?_) (fun hb => ?_)
        replace hb := dT' hb
        simp only [pu', p0', c1', c0', i1', z0', b8_nat]
        refine qpickF ?_
        simp only [pu', p0', c1', c0', i1', z0', b8_nat]
        refine qmove ?_
        simp only [pu', p0', c1', c0', i1', z0', b8_nat]
        refine qN ?_
        simp only [pu', p0', c1', c0', i1', z0', b8_nat]
        refine qN ?_
        simp only [pu', p0', c1', c0', i1', z0', b8_nat]
        refine qN ?_
        simp only [pu', p0', c1', c0', i1', z0', b8_nat]
        refine qN ?_
        simp only [pu', p0', c1', c0', i1', z0', b8_nat]
        refine qN ?_
        simp only [pu', p0', c1', c0', i1', z0', b8_nat]
        refine qN ?_
        simp only [pu', p0', c1', c0', i1', z0', b8_nat]
        refine qN ?_
        simp only [pu', p0', c1', c0', i1', z0', b8_nat]
        refine qN ?_
        simp only [pu', p0', c1', c0', i1', z0', b8_nat]
        refine qN ?_
        simp only [pu', p0', c1', c0', i1', z0', b8_nat]
        refine qpickT ?_
        simp only [pu', p0', c1', c0', i1', z0', b8_nat]
        with_reducible refine q_end ?_
        with_reducible refine s_then ?_
        refine sCT ?_
        with_reducible refine s_seq ?_
        with_reducible refine s_reg ?_
        refine sstore1 ?_
        simp only [pu', p0', c1', c0', i1', n0', n3', n1', n2', a2', a1', a0', n4', Nat.reduceAdd, z0', n5', sa0, sa1, sa2, sa3, sa4, sa5, sa6, sa7, sa8, sa9, sa10, sa11]
        with_reducible refine s_end ?_
        with_reducible refine s_then ?_
        with_reducible refine s_ret ?_
        with_reducible refine s_blkR ?_
        with_reducible refine s_thenR ?_
        with_reducible refine l_ret ?_
        with_reducible refine s_blkR ?_
        with_reducible refine s_thenR ?_
        rotate_left 1
        replace hb := dF' hb
        simp only [pu', p0', c1', c0', i1', z0', b8_nat]
        refine qpickF ?_
        simp only [pu', p0', c1', c0', i1', z0', b8_nat]
        refine qmove ?_
        simp only [pu', p0', c1', c0', i1', z0', b8_nat]
        refine qmove ?_
        simp only [pu', p0', c1', c0', i1', z0', b8_nat]
        refine qfad ?_
        simp only [pu', p0', c1', c0', i1', z0', b8_nat]
        refine qload1 ?_
        simp only [pu', p0', c1', c0', i1', z0', b8_nat]
        refine qLt (fun hb => ?_) (fun hb => ?_)
        replace hb := dT' hb
        simp only [pu', p0', c1', c0', i1', z0', b8_nat]
        refine qmove ?_
        simp only [pu', p0', c1', c0', i1', z0', b8_nat]
        refine qfad ?_
        simp only [pu', p0', c1', c0', i1', z0', b8_nat]
        refine qloadB1 (fun hb => ?_) (fun hb => ?_)
        simp only [pu', p0', c1', c0', i1', z0', b8_nat]
        refine qnotT ?_
        simp only [pu', p0', c1', c0', i1', z0', b8_nat]
        refine qpickT ?_
        simp only [pu', p0', c1', c0', i1', z0', b8_nat]
        refine qpickF ?_
        simp only [pu', p0', c1', c0', i1', z0', b8_nat]
        with_reducible refine q_end ?_
        with_reducible refine s_then ?_
        refine sCF ?_
        with_reducible refine s_skip ?_
        with_reducible refine s_blkN ?_
        with_reducible refine s_then ?_
        with_reducible refine s_reg ?_
        refine sadd ?_
        simp only [pu', p0', c1', c0', i1', z0', b8_nat]
        refine smove ?_
        simp only [pu', p0', c1', c0', i1', z0', b8_nat]
        with_reducible refine s_end ?_
        rotate_left 1
        simp only [pu', p0', c1', c0', i1', z0', b8_nat]
        refine qnotF ?_
        simp only [pu', p0', c1', c0', i1', z0', b8_nat]
        refine qpickT ?_
        simp only [pu', p0', c1', c0', i1', z0', b8_nat]
        refine qpickF ?_
        simp only [pu', p0', c1', c0', i1', z0', b8_nat]
        with_reducible refine q_end ?_
        with_reducible refine s_then ?_
        refine sCT ?_
        with_reducible refine s_seq ?_
        with_reducible refine s_reg ?_
        refine sstore1 ?_
        simp only [pu', p0', c1', c0', i1', n0', n3', n1', n2', a2', a1', a0', n4', Nat.reduceAdd, z0', n5', sa0, sa1, sa2, sa3, sa4, sa5, sa6, sa7, sa8, sa9, sa10, sa11]
        with_reducible refine s_end ?_
        with_reducible refine s_then ?_
        with_reducible refine s_ret ?_
        with_reducible refine s_blkR ?_
        with_reducible refine s_thenR ?_
        with_reducible refine l_ret ?_
        with_reducible refine s_blkR ?_
        with_reducible refine s_thenR ?_
        rotate_left 1
        replace hb := dF' hb
        simp only [pu', p0', c1', c0', i1', z0', b8_nat]
        refine qmove ?_
        simp only [pu', p0', c1', c0', i1', z0', b8_nat]
        refine qN ?_
        simp only [pu', p0', c1', c0', i1', z0', b8_nat]
        refine qN ?_
        simp only [pu', p0', c1', c0', i1', z0', b8_nat]
        refine qN ?_
        simp only [pu', p0', c1', c0', i1', z0', b8_nat]
        refine qpickF ?_
        simp only [pu', p0', c1', c0', i1', z0', b8_nat]
        refine qpickF ?_
        simp only [pu', p0', c1', c0', i1', z0', b8_nat]
        with_reducible refine q_end ?_
        with_reducible refine s_then ?_
        refine sCF ?_
        with_reducible refine s_skip ?_
        with_reducible refine s_blkN ?_
        with_reducible refine s_then ?_
        with_reducible refine s_reg ?_
        refine sadd ?_
        simp only [pu', p0', c1', c0', i1', z0', b8_nat]
        refine smove ?_
        simp only [pu', p0', c1', c0', i1', z0', b8_nat]
        with_reducible refine s_end ?_
        rotate_left 1
        simp only [pu', p0', c1', c0', i1', z0', b8_nat]
        refine smove ?_
        simp only [pu', p0', c1', c0', i1', z0', b8_nat]
        refine sfad ?_
        simp only [pu', p0', c1', c0', i1', z0', b8_nat]
        refine sloadB1 (fun hb => ?_) (fun hb => ?_)
        simp only [pu', p0', c1', c0', i1', z0', b8_nat]
        refine spickF ?_
        simp only [pu', p0', c1', c0', i1', z0', b8_nat]
        with_reducible refine s_end ?_
        with_reducible refine s_then ?_
        refine sCT ?_
        with_reducible refine s_reg ?_
        refine sassign ?_
        simp only [pu', p0', c1', c0', i1', z0', b8_nat]
        with_reducible refine s_end ?_
        with_reducible refine s_then ?_
        with_reducible refine s_seq ?_
        (refine s_regQ (id := 21) [(0, true), (1, true), (2, true), (3, true), (4, true), (5, true), (6, true), (7, true), (8, true), (9, true), (10, true), (11, true), (12, true), (13, true), (14, true), (15, true), (16, true), (17, true), (18, true), (19, true), (20, true), (21, true), (22, true), (23, true), (24, true), (25, true), (26, true)] (by kernel_rfl) (by conv => lhs; simp only [pickO, List.getElem?_cons_succ, List.getElem?_cons_zero]) ?_)
        refine qfad ?_
        simp only [pu', p0', c1', c0', i1', z0', b8_nat]
        refine qload1 ?_
        simp only [pu', p0', c1', c0', i1', z0', b8_nat]
        refine qfad ?_
        simp only [pu', p0', c1', c0', i1', z0', b8_nat]
        refine qload1 ?_
        simp only [pu', p0', c1', c0', i1', z0', b8_nat]
        refine qmove ?_
        simp only [pu', p0', c1', c0', i1', z0', b8_nat]
        refine qidxE ?_
        simp only [pu', p0', c1', c0', i1', z0', b8_nat]
        refine qloadE1 ?_
        simp only [pu', p0', c1', c0', i1', z0', b8_nat]
        refine qNe (fun hb => ?_) (fun hb => ?_)
        replace hb := dT' hb
        simp only [pu', p0', c1', c0', i1', z0', b8_nat]
        refine qmove ?_
        simp only [pu', p0', c1', c0', i1', z0', b8_nat]
        refine qN ?_
        simp only [pu', p0', c1', c0', i1', z0', b8_nat]
        refine qN ?_
        simp only [pu', p0', c1', c0', i1', z0', b8_nat]
        refine qN ?_
        simp only [pu', p0', c1', c0', i1', z0', b8_nat]
        refine qN ?_
        simp only [pu', p0', c1', c0', i1', z0', b8_nat]
        refine qN ?_
        simp only [pu', p0', c1', c0', i1', z0', b8_nat]
        refine qN ?_
        simp only [pu', p0', c1', c0', i1', z0', b8_nat]
        refine qpickT ?_
        simp only [pu', p0', c1', c0', i1', z0', b8_nat]
        refine qmove ?_
        simp only [pu', p0', c1', c0', i1', z0', b8_nat]
        refine qN ?_
        simp only [pu', p0', c1', c0', i1', z0', b8_nat]
        refine qN ?_
        simp only [pu', p0', c1', c0', i1', z0', b8_nat]
        refine qN ?_
        simp only [pu', p0', c1', c0', i1', z0', b8_nat]
        refine qN ?_
        simp only [pu', p0', c1', c0', i1', z0', b8_nat]
        refine qN ?_
        simp only [pu', p0', c1', c0', i1', z0', b8_nat]
        refine qN ?_
        simp only [pu', p0', c1', c0', i1', z0', b8_nat]
        refine qN ?_
        simp only [pu', p0', c1', c0', i1', z0', b8_nat]
        refine qN ?_
        simp only [pu', p0', c1', c0', i1', z0', b8_nat]
        refine qN ?_
        simp only [pu', p0', c1', c0', i1', z0', b8_nat]
        refine qpickT ?_
        simp only [pu', p0', c1', c0', i1', z0', b8_nat]
        with_reducible refine q_end ?_
        with_reducible refine s_then ?_
        refine sCT ?_
        with_reducible refine s_seq ?_
        with_reducible refine s_reg ?_
        refine sstore1 ?_
        simp only [pu', p0', c1', c0', i1', n0', n3', n1', n2', a2', a1', a0', n4', Nat.reduceAdd, z0', n5', sa0, sa1, sa2, sa3, sa4, sa5, sa6, sa7, sa8, sa9, sa10, sa11]
        with_reducible refine s_end ?_
        with_reducible refine s_then ?_
        with_reducible refine s_ret ?_
        with_reducible refine s_blkR ?_
        with_reducible refine s_thenR ?_
        with_reducible refine l_ret ?_
        with_reducible refine s_blkR ?_
        with_reducible refine s_thenR ?_
        rotate_left 1
        replace hb := dF' hb
        simp only [pu', p0', c1', c0', i1', z0', b8_nat]
        refine qmove ?_
        simp only [pu', p0', c1', c0', i1', z0', b8_nat]
        refine qmove ?_
        simp only [pu', p0', c1', c0', i1', z0', b8_nat]
        refine qmove ?_
        simp only [pu', p0', c1', c0', i1', z0', b8_nat]
        refine qidxE ?_
        simp only [pu', p0', c1', c0', i1', z0', b8_nat]
        refine qloadE1 ?_
        simp only [pu', p0', c1', c0', i1', z0', b8_nat]
        refine qmove ?_
        simp only [pu', p0', c1', c0', i1', z0', b8_nat]
        refine qNe (fun hb => ?_) (fun hb => ?_)
        replace hb := dT' hb
        simp only [pu', p0', c1', c0', i1', z0', b8_nat]
        refine qpickF ?_
        simp only [pu', p0', c1', c0', i1', z0', b8_nat]
        refine qmove ?_
        simp only [pu', p0', c1', c0', i1', z0', b8_nat]
        refine qN ?_
        simp only [pu', p0', c1', c0', i1', z0', b8_nat]
        refine qN ?_
        simp only [pu', p0', c1', c0', i1', z0', b8_nat]
        refine qN ?_
        simp only [pu', p0', c1', c0', i1', z0', b8_nat]
        refine qN ?_
        simp only [pu', p0', c1', c0', i1', z0', b8_nat]
        refine qN ?_
        simp only [pu', p0', c1', c0', i1', z0', b8_nat]
        refine qN ?_
        simp only [pu', p0', c1', c0', i1', z0', b8_nat]
        refine qN ?_
        simp only [pu', p0', c1', c0', i1', z0', b8_nat]
        refine qN ?_
        simp only [pu', p0', c1', c0', i1', z0', b8_nat]
        refine qN ?_
        simp only [pu', p0', c1', c0', i1', z0', b8_nat]
        refine qpickT ?_
        simp only [pu', p0', c1', c0', i1', z0', b8_nat]
        with_reducible refine q_end ?_
        with_reducible refine s_then ?_
        refine sCT ?_
        with_reducible refine s_seq ?_
        with_reducible refine s_reg ?_
        refine sstore1 ?_
        simp only [pu', p0', c1', c0', i1', n0', n3', n1', n2', a2', a1', a0', n4', Nat.reduceAdd, z0', n5', sa0, sa1, sa2, sa3, sa4, sa5, sa6, sa7, sa8, sa9, sa10, sa11]
        with_reducible refine s_end ?_
        with_reducible refine s_then ?_
        with_reducible refine s_ret ?_
        with_reducible refine s_blkR ?_
        with_reducible refine s_thenR ?_
        with_reducible refine l_ret ?_
        with_reducible refine s_blkR ?_
        with_reducible refine s_thenR ?_
        rotate_left 1
        replace hb := dF' hb
        simp only [pu', p0', c1', c0', i1', z0', b8_nat]
        refine qpickF ?_
        simp only [pu', p0', c1', c0', i1', z0', b8_nat]
        refine qmove ?_
        simp only [pu', p0', c1', c0', i1', z0', b8_nat]
        refine qmove ?_
        simp only [pu', p0', c1', c0', i1', z0', b8_nat]
        refine qfad ?_
        simp only [pu', p0', c1', c0', i1', z0', b8_nat]
        refine qload1 ?_
        simp only [pu', p0', c1', c0', i1', z0', b8_nat]
        refine qLt (fun hb => ?_) (fun hb => ?_)
        replace hb := dT' hb
        simp only [pu', p0', c1', c0', i1', z0', b8_nat]
        refine qmove ?_
        simp only [pu', p0', c1', c0', i1', z0', b8_nat]
        refine qfad ?_
        simp only [pu', p0', c1', c0', i1', z0', b8_nat]
        refine qloadB1 (fun hb => ?_) (fun hb => ?_)
        simp only [pu', p0', c1', c0', i1', z0', b8_nat]
        refine qnotT ?_
        simp only [pu', p0', c1', c0', i1', z0', b8_nat]
        refine qpickT ?_
        simp only [pu', p0', c1', c0', i1', z0', b8_nat]
        refine qpickF ?_
        simp only [pu', p0', c1', c0', i1', z0', b8_nat]
        with_reducible refine q_end ?_
        with_reducible refine s_then ?_
        refine sCF ?_
        with_reducible refine s_skip ?_
        with_reducible refine s_blkN ?_
        with_reducible refine s_then ?_
        with_reducible refine s_reg ?_
        refine sadd ?_
        simp only [pu', p0', c1', c0', i1', z0', b8_nat]
        refine smove ?_
        simp only [pu', p0', c1', c0', i1', z0', b8_nat]
        with_reducible refine s_end ?_
        rotate_left 1
        exact bX' (by with_reducible assumption) hb
        replace hb := dF' hb
        simp only [pu', p0', c1', c0', i1', z0', b8_nat]
        refine qmove ?_
        simp only [pu', p0', c1', c0', i1', z0', b8_nat]
        refine qN ?_
        simp only [pu', p0', c1', c0', i1', z0', b8_nat]
        refine qN ?_
        simp only [pu', p0', c1', c0', i1', z0', b8_nat]
        refine qN ?_
        simp only [pu', p0', c1', c0', i1', z0', b8_nat]
        refine qpickF ?_
        simp only [pu', p0', c1', c0', i1', z0', b8_nat]
        refine qpickF ?_
        simp only [pu', p0', c1', c0', i1', z0', b8_nat]
        with_reducible refine q_end ?_
        with_reducible refine s_then ?_
        refine sCF ?_
        with_reducible refine s_skip ?_
        with_reducible refine s_blkN ?_
        with_reducible refine s_then ?_
        with_reducible refine s_reg ?_
        refine sadd ?_
        simp only [pu', p0', c1', c0', i1', z0', b8_nat]
        refine smove ?_
        simp only [pu', p0', c1', c0', i1', z0', b8_nat]
        with_reducible refine s_end ?_
        rotate_left 1
        simp only [pu', p0', c1', c0', i1', z0', b8_nat]
        refine spickF ?_
        simp only [pu', p0', c1', c0', i1', z0', b8_nat]
        with_reducible refine s_end ?_
        with_reducible refine s_then ?_
        refine sCF ?_
        with_reducible refine s_skip ?_
        with_reducible refine s_then ?_
        with_reducible refine s_seq ?_
        (refine s_regQ (id := 21) [(0, true), (1, true), (2, true), (3, true), (4, true), (5, true), (6, true), (7, true), (8, true), (9, true), (10, true), (11, true), (12, true), (13, true), (14, true), (15, true), (16, true), (17, true), (18, true), (19, true), (20, true), (21, true), (22, true), (23, true), (24, true), (25, true), (26, true)] (by kernel_rfl) (by conv => lhs; simp only [pickO, List.getElem?_cons_succ, List.getElem?_cons_zero]) ?_)
        refine qfad ?_
        simp only [pu', p0', c1', c0', i1', z0', b8_nat]
        refine qload1 ?_
        simp only [pu', p0', c1', c0', i1', z0', b8_nat]
        refine qfad ?_
        simp only [pu', p0', c1', c0', i1', z0', b8_nat]
        refine qload1 ?_
        simp only [pu', p0', c1', c0', i1', z0', b8_nat]
        refine qmove ?_
        simp only [pu', p0', c1', c0', i1', z0', b8_nat]
        refine qidxE ?_
        simp only [pu', p0', c1', c0', i1', z0', b8_nat]
        refine qloadE1 ?_
        simp only [pu', p0', c1', c0', i1', z0', b8_nat]
        refine qNe (fun hb => ?_) (fun hb => ?_)
        replace hb := dT' hb
        simp only [pu', p0', c1', c0', i1', z0', b8_nat]
        refine qmove ?_
        simp only [pu', p0', c1', c0', i1', z0', b8_nat]
        refine qN ?_
        simp only [pu', p0', c1', c0', i1', z0', b8_nat]
        refine qN ?_
        simp only [pu', p0', c1', c0', i1', z0', b8_nat]
        refine qN ?_
        simp only [pu', p0', c1', c0', i1', z0', b8_nat]
        refine qN ?_
        simp only [pu', p0', c1', c0', i1', z0', b8_nat]
        refine qN ?_
        simp only [pu', p0', c1', c0', i1', z0', b8_nat]
        refine qN ?_
        simp only [pu', p0', c1', c0', i1', z0', b8_nat]
        refine qpickT ?_
        simp only [pu', p0', c1', c0', i1', z0', b8_nat]
        refine qmove ?_
        simp only [pu', p0', c1', c0', i1', z0', b8_nat]
        refine qN ?_
        simp only [pu', p0', c1', c0', i1', z0', b8_nat]
        refine qN ?_
        simp only [pu', p0', c1', c0', i1', z0', b8_nat]
        refine qN ?_
        simp only [pu', p0', c1', c0', i1', z0', b8_nat]
        refine qN ?_
        simp only [pu', p0', c1', c0', i1', z0', b8_nat]
        refine qN ?_
        simp only [pu', p0', c1', c0', i1', z0', b8_nat]
        refine qN ?_
        simp only [pu', p0', c1', c0', i1', z0', b8_nat]
        refine qN ?_
        simp only [pu', p0', c1', c0', i1', z0', b8_nat]
        refine qN ?_
        simp only [pu', p0', c1', c0', i1', z0', b8_nat]
        refine qN ?_
        simp only [pu', p0', c1', c0', i1', z0', b8_nat]
        refine qpickT ?_
        simp only [pu', p0', c1', c0', i1', z0', b8_nat]
        with_reducible refine q_end ?_
        with_reducible refine s_then ?_
        refine sCT ?_
        with_reducible refine s_seq ?_
        with_reducible refine s_reg ?_
        refine sstore1 ?_
        simp only [pu', p0', c1', c0', i1', n0', n3', n1', n2', a2', a1', a0', n4', Nat.reduceAdd, z0', n5', sa0, sa1, sa2, sa3, sa4, sa5, sa6, sa7, sa8, sa9, sa10, sa11]
        with_reducible refine s_end ?_
        with_reducible refine s_then ?_
        with_reducible refine s_ret ?_
        with_reducible refine s_blkR ?_
        with_reducible refine s_thenR ?_
        with_reducible refine l_ret ?_
        with_reducible refine s_blkR ?_
        with_reducible refine s_thenR ?_
        rotate_left 1
        replace hb := dF' hb
        simp only [pu', p0', c1', c0', i1', z0', b8_nat]
        refine qmove ?_
        simp only [pu', p0', c1', c0', i1', z0', b8_nat]
        refine qmove ?_
        simp only [pu', p0', c1', c0', i1', z0', b8_nat]
        refine qmove ?_
        simp only [pu', p0', c1', c0', i1', z0', b8_nat]
        refine qidxE ?_
        simp only [pu', p0', c1', c0', i1', z0', b8_nat]
        refine qloadE1 ?_
        simp only [pu', p0', c1', c0', i1', z0', b8_nat]
        refine qmove ?_
        simp only [pu', p0', c1', c0', i1', z0', b8_nat]
        refine qNe (fun hb => ?_) (fun hb => ?_)
        replace hb := dT' hb
        simp only [pu', p0', c1', c0', i1', z0', b8_nat]
        refine qpickF ?_
        simp only [pu', p0', c1', c0', i1', z0', b8_nat]
        refine qmove ?_
        simp only [pu', p0', c1', c0', i1', z0', b8_nat]
        refine qN ?_
        simp only [pu', p0', c1', c0', i1', z0', b8_nat]
        refine qN ?_
        simp only [pu', p0', c1', c0', i1', z0', b8_nat]
        refine qN ?_
        simp only [pu', p0', c1', c0', i1', z0', b8_nat]
        refine qN ?_
        simp only [pu', p0', c1', c0', i1', z0', b8_nat]
        refine qN ?_
        simp only [pu', p0', c1', c0', i1', z0', b8_nat]
        refine qN ?_
        simp only [pu', p0', c1', c0', i1', z0', b8_nat]
        refine qN ?_
        simp only [pu', p0', c1', c0', i1', z0', b8_nat]
        refine qN ?_
        simp only [pu', p0', c1', c0', i1', z0', b8_nat]
        refine qN ?_
        simp only [pu', p0', c1', c0', i1', z0', b8_nat]
        refine qpickT ?_
        simp only [pu', p0', c1', c0', i1', z0', b8_nat]
        with_reducible refine q_end ?_
        with_reducible refine s_then ?_
        refine sCT ?_
        with_reducible refine s_seq ?_
        with_reducible refine s_reg ?_
        refine sstore1 ?_
        simp only [pu', p0', c1', c0', i1', n0', n3', n1', n2', a2', a1', a0', n4', Nat.reduceAdd, z0', n5', sa0, sa1, sa2, sa3, sa4, sa5, sa6, sa7, sa8, sa9, sa10, sa11]
        with_reducible refine s_end ?_
        with_reducible refine s_then ?_
        with_reducible refine s_ret ?_
        with_reducible refine s_blkR ?_
        with_reducible refine s_thenR ?_
        with_reducible refine l_ret ?_
        with_reducible refine s_blkR ?_
        with_reducible refine s_thenR ?_
        rotate_left 1
        replace hb := dF' hb
        simp only [pu', p0', c1', c0', i1', z0', b8_nat]
        refine qpickF ?_
        simp only [pu', p0', c1', c0', i1', z0', b8_nat]
        refine qmove ?_
        simp only [pu', p0', c1', c0', i1', z0', b8_nat]
        refine qmove ?_
        simp only [pu', p0', c1', c0', i1', z0', b8_nat]
        refine qfad ?_
        simp only [pu', p0', c1', c0', i1', z0', b8_nat]
        refine qload1 ?_
        simp only [pu', p0', c1', c0', i1', z0', b8_nat]
        refine qLt (fun hb => ?_) (fun hb => ?_)
        replace hb := dT' hb
        simp only [pu', p0', c1', c0', i1', z0', b8_nat]
        refine qmove ?_
        simp only [pu', p0', c1', c0', i1', z0', b8_nat]
        refine qfad ?_
        simp only [pu', p0', c1', c0', i1', z0', b8_nat]
        refine qloadB1 (fun hb => ?_) (fun hb => ?_)
        exact bX' hb (by with_reducible assumption)
        simp only [pu', p0', c1', c0', i1', z0', b8_nat]
        refine qnotF ?_
        simp only [pu', p0', c1', c0', i1', z0', b8_nat]
        refine qpickT ?_
        simp only [pu', p0', c1', c0', i1', z0', b8_nat]
        refine qpickF ?_
        simp only [pu', p0', c1', c0', i1', z0', b8_nat]
        with_reducible refine q_end ?_
        with_reducible refine s_then ?_
        refine sCT ?_
        with_reducible refine s_seq ?_
        with_reducible refine s_reg ?_
        refine sstore1 ?_
        simp only [pu', p0', c1', c0', i1', n0', n3', n1', n2', a2', a1', a0', n4', Nat.reduceAdd, z0', n5', sa0, sa1, sa2, sa3, sa4, sa5, sa6, sa7, sa8, sa9, sa10, sa11]
        with_reducible refine s_end ?_
        with_reducible refine s_then ?_
        with_reducible refine s_ret ?_
        with_reducible refine s_blkR ?_
        with_reducible refine s_thenR ?_
        with_reducible refine l_ret ?_
        with_reducible refine s_blkR ?_
        with_reducible refine s_thenR ?_
        rotate_left 1
        replace hb := dF' hb
        simp only [pu', p0', c1', c0', i1', z0', b8_nat]
        refine qmove ?_
        simp only [pu', p0', c1', c0', i1', z0', b8_nat]
        refine qN ?_
        simp only [pu', p0', c1', c0', i1', z0', b8_nat]
        refine qN ?_
        simp only [pu', p0', c1', c0', i1', z0', b8_nat]
        refine qN ?_
        simp only [pu', p0', c1', c0', i1', z0', b8_nat]
        refine qpickF ?_
        simp only [pu', p0', c1', c0', i1', z0', b8_nat]
        refine qpickF ?_
        simp only [pu', p0', c1', c0', i1', z0', b8_nat]
        with_reducible refine q_end ?_
        with_reducible refine s_then ?_
        refine sCF ?_
        with_reducible refine s_skip ?_
        with_reducible refine s_blkN ?_
        with_reducible refine s_then ?_
        with_reducible refine s_reg ?_
        refine sadd ?_
        simp only [pu', p0', c1', c0', i1', z0', b8_nat]
        refine smove ?_
        simp only [pu', p0', c1', c0', i1', z0', b8_nat]
        with_reducible refine s_end ?_
        rotate_left 1
        replace hb := dF' hb
        simp only [pu', p0', c1', c0', i1', z0', b8_nat]
        with_reducible refine s_end ?_
        with_reducible refine s_then ?_
        with_reducible refine s_seq ?_
        refine sCF ?_
        with_reducible refine s_exit ?_
        with_reducible refine s_thenE ?_
        with_reducible refine l_exit ?_
        with_reducible refine s_blkE ?_
        with_reducible refine s_then ?_
        with_reducible refine s_seq ?_
        with_reducible refine s_reg ?_
        refine sstore1 ?_
        simp only [pu', p0', c1', c0', i1', n0', n3', n1', n2', a2', a1', a0', n4', Nat.reduceAdd, z0', n5', sa0, sa1, sa2, sa3, sa4, sa5, sa6, sa7, sa8, sa9, sa10, sa11]
        with_reducible refine s_end ?_
        with_reducible refine s_then ?_
        with_reducible refine s_ret ?_
        rotate_left 1
      all_goals first
        | (refine l_next ⟨k + 1, G ++ [.cells (encT (ts.getD k tk0)) 68 true]⟩ ⟨by simp only []; omega, by simp only []; exact Sep.sub inferInstance (by repeat' first | exact List.Sublist.refl _ | exact List.sublist_append_left _ _ | exact List.nil_sublist _ | refine List.Sublist.cons_cons _ ?_ | refine List.Sublist.cons _ ?_ | refine List.Sublist.trans ?_ (List.sublist_append_left _ _)), hN (by first | (rw [hw1 (by assumption)]; omega) | (rw [hw2 (by assumption)]; omega) | (rw [hw3 (by assumption) (by assumption)]; omega)) (by omega) (by first | exact fun _ => by assumption | exact fun h => absurd h (by omega))⟩ (by simp only []; omega) (by rfl) (by rfl); done)
        | (refine rk_dfr ?_ inferInstance
           ((try with_reducible refine w_n ?_); refine w_1 rfl (by first | exact v_t (by rfl) | exact v_c1 (C1.p) (by rfl) (HA.p) (by rfl) | exact v_cF (CA.p) (by rfl) (HA.p) (by rfl)) ?_)
           refine ⟨rfl, Sep.ext, ?_, trivial⟩
           first
             | (rw [decide_eq_false (fun hh : StP _ => by have h3 := hce.1 (hh.2.2 k (by simp only []; omega)); first | (rw [hw1 (by assumption)] at h3; omega) | (rw [hw2 (by assumption)] at h3; omega) | (rw [hw3 (by assumption) (by assumption)] at h3; omega) | (have h5 := hov3 (by have := hh.1; simp only [] at this; omega); simp_all))]; done)
             | (have e1 := overN_of (ts := ts) (n := out.toNat) (by omega) (fun i hi => (hC i (by omega)).2 (by omega)) (fun hh => he (hcp.2 ⟨by simp only []; omega, hh.2⟩))
                rw [decide_eq_true (show StP ⟨us, ws, ts, out⟩ from ⟨by simp only []; omega, hlen, fun i hi => (hC i (by simp only [] at hi; omega)).1⟩)]; done))
end Go.Proofs.Ytfcgmkpihmiadaa
