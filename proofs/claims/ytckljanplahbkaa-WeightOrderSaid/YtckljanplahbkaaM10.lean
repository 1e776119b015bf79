/-
  A part of the proof of a statement of a chapter's seat; conditions: stated at each theorem.
-/
import Derived.Test.YtckljanplahbkaaM9
set_option linter.unusedVariables false
set_option linter.unusedSectionVars false
set_option linter.unusedSimpArgs false
set_option linter.unusedVariables false
set_option maxRecDepth 100000
set_option maxHeartbeats 4000000
namespace Go.Proofs.Ytckljanplahbkaa
open Go.Az Go
abbrev B8 (x : Int) : AV := .v (.int .u8 x)
abbrev TB := Elts (encI .u8) 1
theorem bok : EncOk (encI .u8) 1 := encI_ok .u8
theorem bs_55o (x : Int) : bslC Try.prog 55 1 [(0, B8 x)] = some (5, [B8 x]) := by kernel_rfl
instance (x : Int) : BS Try.prog 55 1 [(0, B8 x)] 5 [B8 x] := ⟨bs_55o x⟩
theorem setMany_one {cs : List AV} {o : Nat} {v : AV} (h : o < cs.length) : setMany cs o [v] = cs.set o v := by
  rw [setMany, List.set_eq_take_append_cons_drop, if_pos h]; simp
theorem unB_flat : ∀ l : List Int, unB (l.flatMap (encI .u8)) = some (l.map fun x => UInt8.ofNat x.toNat)
  | [] => rfl
  | x :: l => by
    have := unB_flat l
    rw [List.flatMap_cons]
    show unB (.v (.int .u8 x) :: l.flatMap (encI .u8)) = _
    rw [unB, this]; rfl
theorem x_str {f : Fr} {h : Hp} {a : Operand} {s : AV} {l : List Int} (hS : TB h s l) (ha : ev f a = s) : exL Try.prog f h (.convert 55 9 a) = some (St (l.map fun x => UInt8.ofNat x.toNat)) := by
  have h1 := (sliOf_spec sl_55).1
  have h2 := strTy_spec st_9
  rcases hS with ⟨rfl, rfl⟩ | ⟨i, o, c, u, cs, t, ow, rfl, h3, h4, h5⟩
  · simp [exL, ha, cnv, h1, h2, u_5]
  · rw [Nat.mul_one] at h4 h5
    simp [exL, ha, cnv, h1, h2, u_5, h3, h4, h5, unB_flat]
/-! ### A direct description -/
def dirD (l : List Int) : Nat → List Int
  | 0 => [(l.length : Int) + 127]
  | i + 1 => if i % 2 = 0 then dirD l i ++ [l.getD i 0 * 2 ^ 4] else (dirD l i).set ((dirD l i).length - 1) ((dirD l i).getD ((dirD l i).length - 1) 0 + l.getD i 0)
theorem dir_len (l : List Int) : ∀ i, (dirD l i).length = 1 + (i + 1) / 2
  | 0 => rfl
  | i + 1 => by
    unfold dirD
    have := dir_len l i
    split
    · rw [List.length_append, this]; simp; omega
    · rw [List.length_set, this]; omega
theorem dir_last (l : List Int) (i : Nat) (h : i % 2 = 1) : (dirD l i).getD ((dirD l i).length - 1) 0 = l.getD (i - 1) 0 * 2 ^ 4 := by
  cases i with
  | zero => cases h
  | succ j =>
    have e : dirD l (j + 1) = dirD l j ++ [l.getD j 0 * 2 ^ 4] := by rw [dirD, if_pos (by omega)]
    rw [e, List.length_append, List.getD_eq_getElem?_getD, List.getElem?_append_right (by simp)]
    simp
theorem or_tab : (List.range 12).all (fun a => (List.range 12).all fun b => decide (orI .u8 ((a : Nat) * 2 ^ 4) (b : Nat) = (a : Nat) * 2 ^ 4 + (b : Nat))) = true := by kernel_rfl
theorem or_nib {a b : Int} (ha : inr a) (hb : inr b) : orI .u8 (a * 2 ^ 4) b = a * 2 ^ 4 + b := by
  have h := List.all_eq_true.1 (List.all_eq_true.1 or_tab a.toNat (by simp; have := ha.2; omega)) b.toNat (by simp; have := hb.2; omega)
  simp only [decide_eq_true_eq, Int.toNat_of_nonneg ha.1, Int.toNat_of_nonneg hb.1] at h
  exact h
def dirS (l : List Int) : List UInt8 := (dirD l l.length).map fun x => UInt8.ofNat x.toNat
def dirE (l : List Int) : Int := if impE l ≠ 0 then impE l else if 128 < l.length then 4 else 0
def dirR (l : List Int) : AV := if dirE l = 0 then .tup [St (dirS l), I 0] else .tup [St [], I (dirE l)]
structure DR where
  i : Nat
  z : AV
  H : Hp
theorem direct_any (h : Hp) (s : AV) (l : List Int) (hS : TI h s l) : ACalls Try.prog 25 [s] h (fun r h' => r = dirR l ∧ h' = h) := by
  by_cases he : impE l = 0
  case neg =>
    have hd : dirE l = impE l := by rw [dirE, if_pos he]
    rw [dirR, if_neg (by omega), hd]
    refine acalls_of_wk hm Try.func25 rfl ?_
    simp only [Try.ntmps25, List.length_cons, List.length_nil, Nat.reduceAdd, Nat.reduceSub, List.reduceReplicate, List.cons_append, List.nil_append]
    show wk _ _ none _ _ ⟨_, []⟩ _
    focus
      with_reducible refine s_seq ?_
      with_reducible refine s_reg ?_
      refine sassign ?_
      simp only [pu', p0', c1', c0', i1', z0', b8_nat]
      refine sassign ?_
      simp only [pu', p0', c1', c0', i1', z0', b8_nat]
      with_reducible refine s_end ?_
      with_reducible refine s_then ?_
      with_reducible refine s_scope hm ?_
      with_reducible refine s_seq ?_
      with_reducible refine s_seq ?_
      with_reducible refine s_reg ?_
      refine smove ?_
      simp only [pu', p0', c1', c0', i1', z0', b8_nat]
      refine sM (hx := rfl) (right_any _ _ _ hS) ?_
      simp only [pu', p0', c1', c0', i1', z0', b8_nat]
      refine sassign ?_
      simp only [pu', p0', c1', c0', i1', z0', b8_nat]
      with_reducible refine s_end ?_
      with_reducible refine s_then ?_
      with_reducible refine s_seq ?_
      with_reducible refine s_reg ?_
      refine smove ?_
      simp only [pu', p0', c1', c0', i1', z0', b8_nat]
      refine sNe (fun hb => ?_) (fun hb => ?_)
      replace hb := dT' hb
      simp only [pu', p0', c1', c0', i1', z0', b8_nat]
      with_reducible refine s_end ?_
      with_reducible refine s_then ?_
      refine sCT ?_
      with_reducible refine s_seq ?_
      with_reducible refine s_reg ?_
      refine smove ?_
      simp only [pu', p0', c1', c0', i1', z0', b8_nat]
      refine sassign ?_
      simp only [pu', p0', c1', c0', i1', z0', b8_nat]
      refine sassign ?_
      simp only [pu', p0', c1', c0', i1', z0', b8_nat]
      with_reducible refine s_end ?_
      with_reducible refine s_then ?_
      with_reducible refine s_ret ?_
      with_reducible refine s_thenR ?_
      with_reducible refine s_ngR ?_
      rotate_left 1
      replace hb := dF' hb
      exact absurd (by with_reducible assumption) hb
    all_goals try with_reducible refine w_n ?_
    all_goals refine w_2 rfl (by first | exact v_t (by rfl) | exact v_c1 (C1.p) (by rfl) (HA.p) (by rfl) | exact v_cF (CA.p) (by rfl) (HA.p) (by rfl)) (by first | exact v_t (by rfl) | exact v_c1 (C1.p) (by rfl) (HA.p) (by rfl) | exact v_cF (CA.p) (by rfl) (HA.p) (by rfl)) ?_
    exact ⟨rfl, rfl⟩
  obtain ⟨a1, a2, a3, _⟩ := im_ok he
  by_cases hl : 128 < l.length
  · have hd : dirE l = 4 := by rw [dirE, if_neg (fun a => a he), if_pos hl]
    rw [dirR, if_neg (by omega), hd]
    refine acalls_of_wk hm Try.func25 rfl ?_
    simp only [Try.ntmps25, List.length_cons, List.length_nil, Nat.reduceAdd, Nat.reduceSub, List.reduceReplicate, List.cons_append, List.nil_append]
    show wk _ _ none _ _ ⟨_, []⟩ _
    have el1 := mkEL iok (0:Int) hS
    focus
      with_reducible refine s_seq ?_
      with_reducible refine s_reg ?_
      refine sassign ?_
      simp only [pu', p0', c1', c0', i1', z0', b8_nat]
      refine sassign ?_
      simp only [pu', p0', c1', c0', i1', z0', b8_nat]
      with_reducible refine s_end ?_
      with_reducible refine s_then ?_
      with_reducible refine s_scope hm ?_
      with_reducible refine s_seq ?_
      with_reducible refine s_seq ?_
      with_reducible refine s_reg ?_
      refine smove ?_
      simp only [pu', p0', c1', c0', i1', z0', b8_nat]
      refine sM (hx := rfl) (right_any _ _ _ hS) ?_
      simp only [pu', p0', c1', c0', i1', z0', b8_nat]
      refine sassign ?_
      simp only [pu', p0', c1', c0', i1', z0', b8_nat]
      with_reducible refine s_end ?_
      with_reducible refine s_then ?_
      with_reducible refine s_seq ?_
      with_reducible refine s_reg ?_
      refine smove ?_
      simp only [pu', p0', c1', c0', i1', z0', b8_nat]
      refine sNe (fun hb => ?_) (fun hb => ?_)
      replace hb := dT' hb
      (exfalso; omega)
      replace hb := dF' hb
      simp only [pu', p0', c1', c0', i1', z0', b8_nat]
      with_reducible refine s_end ?_
      with_reducible refine s_then ?_
      refine sCF ?_
      with_reducible refine s_skip ?_
      with_reducible refine s_then ?_
      with_reducible refine s_seq ?_
      with_reducible refine s_seq ?_
      with_reducible refine s_reg ?_
      refine smove ?_
      simp only [pu', p0', c1', c0', i1', z0', b8_nat]
      refine slenE ?_
      simp only [pu', p0', c1', c0', i1', z0', b8_nat]
      refine sGt (fun hb => ?_) (fun hb => ?_)
      replace hb := dT' hb
      simp only [pu', p0', c1', c0', i1', z0', b8_nat]
      with_reducible refine s_end ?_
      with_reducible refine s_then ?_
      refine sCT ?_
      with_reducible refine s_seq ?_
      with_reducible refine s_reg ?_
      refine sassign ?_
      simp only [pu', p0', c1', c0', i1', z0', b8_nat]
      refine sassign ?_
      simp only [pu', p0', c1', c0', i1', z0', b8_nat]
      with_reducible refine s_end ?_
      with_reducible refine s_then ?_
      with_reducible refine s_ret ?_
      with_reducible refine s_thenR ?_
      with_reducible refine s_ngR ?_
      rotate_left 1
      replace hb := dF' hb
      (exfalso; omega)
    all_goals try with_reducible refine w_n ?_
    all_goals refine w_2 rfl (by first | exact v_t (by rfl) | exact v_c1 (C1.p) (by rfl) (HA.p) (by rfl) | exact v_cF (CA.p) (by rfl) (HA.p) (by rfl)) (by first | exact v_t (by rfl) | exact v_c1 (C1.p) (by rfl) (HA.p) (by rfl) | exact v_cF (CA.p) (by rfl) (HA.p) (by rfl)) ?_
    exact ⟨rfl, rfl⟩
  have hd : dirE l = 0 := by rw [dirE, if_neg (fun a => a he), if_neg hl]
  rw [dirR, if_pos hd]
  refine acalls_back ?_
  refine acalls_of_wk hm Try.func25 rfl ?_
  simp only [Try.ntmps25, List.length_cons, List.length_nil, Nat.reduceAdd, Nat.reduceSub, List.reduceReplicate, List.cons_append, List.nil_append]
  show wk _ _ none _ _ ⟨_, []⟩ _
  have el2 := mkEL iok (0:Int) hS
  with_reducible refine s_seq ?_
  with_reducible refine s_reg ?_
  refine sassign ?_
  simp only [pu', p0', c1', c0', i1', z0', b8_nat]
  refine sassign ?_
  simp only [pu', p0', c1', c0', i1', z0', b8_nat]
  with_reducible refine s_end ?_
  with_reducible refine s_then ?_
  with_reducible refine s_scope hm ?_
  with_reducible refine s_seq ?_
  with_reducible refine s_seq ?_
  with_reducible refine s_reg ?_
  refine smove ?_
  simp only [pu', p0', c1', c0', i1', z0', b8_nat]
  refine sM (hx := rfl) (right_any _ _ _ hS) ?_
  simp only [pu', p0', c1', c0', i1', z0', b8_nat]
  refine sassign ?_
  simp only [pu', p0', c1', c0', i1', z0', b8_nat]
  with_reducible refine s_end ?_
  with_reducible refine s_then ?_
  with_reducible refine s_seq ?_
  with_reducible refine s_reg ?_
  refine smove ?_
  simp only [pu', p0', c1', c0', i1', z0', b8_nat]
  refine sNe (fun hb => ?_) (fun hb => ?_)
  replace hb := dT' hb
  (exfalso; omega)
  replace hb := dF' hb
  simp only [pu', p0', c1', c0', i1', z0', b8_nat]
  with_reducible refine s_end ?_
  with_reducible refine s_then ?_
  refine sCF ?_
  with_reducible refine s_skip ?_
  with_reducible refine s_then ?_
  with_reducible refine s_seq ?_
  with_reducible refine s_seq ?_
  with_reducible refine s_reg ?_
  refine smove ?_
  simp only [pu', p0', c1', c0', i1', z0', b8_nat]
  refine slenE ?_
  simp only [pu', p0', c1', c0', i1', z0', b8_nat]
  refine sGt (fun hb => ?_) (fun hb => ?_)
  replace hb := dT' hb
  (exfalso; omega)
  replace hb := dF' hb
  simp only [pu', p0', c1', c0', i1', z0', b8_nat]
  with_reducible refine s_end ?_
  with_reducible refine s_then ?_
  refine sCF ?_
  with_reducible refine s_skip ?_
  with_reducible refine s_then ?_
  with_reducible refine s_seq ?_
  with_reducible refine s_reg ?_
  refine smove ?_
  simp only [pu', p0', c1', c0', i1', z0', b8_nat]
  refine slenE ?_
  simp only [pu', p0', c1', c0', i1', z0', b8_nat]
  refine sadd ?_
  simp only [pu', p0', c1', c0', i1', z0', b8_nat]
  refine sconv ?_
  simp only [pu', p0', c1', c0', i1', z0', b8_nat]
  refine sbsl ?_
  simp only [pu', p0', c1', c0', i1', n0', n3', n1', n2', a2', a1', a0', n4', Nat.reduceAdd, z0', n5', sa0, sa1, sa2, sa3, sa4, sa5, sa6, sa7, sa8, sa9, sa10, sa11]
  refine sassign ?_
  simp only [pu', p0', c1', c0', i1', z0', b8_nat]
  with_reducible refine s_end ?_
  with_reducible refine s_then ?_
  with_reducible refine s_seq ?_
  with_reducible refine s_label ?_
  with_reducible refine s_then ?_
  with_reducible refine s_seq ?_
  with_reducible refine s_seq ?_
  with_reducible refine s_reg ?_
  refine smove ?_
  simp only [pu', p0', c1', c0', i1', z0', b8_nat]
  refine slenE ?_
  simp only [pu', p0', c1', c0', i1', z0', b8_nat]
  refine smove ?_
  simp only [pu', p0', c1', c0', i1', z0', b8_nat]
  with_reducible refine s_end ?_
  with_reducible refine s_then ?_
  with_reducible refine s_block ?_
  refine s_loop hm (fun (b : DR) s' => [s' 0, s' 1, s' 2, s' 3, s' 4, b.z, s' 6, s' 7, s' 8, s' 9, s' 10, s' 11, s' 12, s' 13, s' 14, s' 15, s' 16, s' 17, s' 18, s' 19, s' 20, s, I l.length, I b.i, s' 24, s' 25, s' 26, s' 27, s' 28, s' 29, s' 30, s' 31, s' 32, s' 33, s' 34, s' 35, s' 36, s' 37, s' 38, s' 39, s' 40, s' 41, s' 42, s' 43, s' 44, s' 45, s' 46, s' 47, s' 48, s' 49]) (fun b => b.H) (fun b => b.i ≤ l.length ∧ Ext h b.H ∧ Own (encI .u8) 1 5 b.H b.z (dirD l b.i) ∧ (∀ k, objOf b.z = some k → h.length ≤ k)) (fun b => l.length - b.i) ⟨0, .sl h.length 0 1 1 false, h ++ [.cells [B8 (l.length + 127)] 5 true]⟩ (by rfl) rfl ⟨Nat.zero_le _, ext_app _ _, .inr ⟨h.length, 0, 1, false, [B8 (l.length + 127)], rfl, ga0, by simp [dirD], by simp [dirD, encI], by simp, by simp [dirD]⟩, fun k hk => by injection hk with hk; omega⟩ ?_
  rintro ⟨i, z, H⟩ s'' ⟨hi, hx, hO, hz⟩
  simp only [] at hi hx hO hz ⊢
  have hS' := hS.ext hx
  have hx1 : i < l.length → inr (l.getD i 0) := fun a => a3 _ (getD_mem a)
  have hx1' := hx1
  simp only [inr] at hx1'
  have hdl := dir_len l i
  have hxl := hx.1
  have hix : (((dirD l i).length : Int) - 1).toNat = (dirD l i).length - 1 := by omega
  have el3 := mkEL iok (0:Int) hS'
  have el4 := mkEL bok (0:Int) hO.elts
  focus
    with_reducible refine s_seq ?_
    with_reducible refine s_reg ?_
    refine sLt (fun hb => ?_) (fun hb => ?_)
    replace hb := dT' hb
    simp only [pu', p0', c1', c0', i1', z0', b8_nat]
    with_reducible refine s_end ?_
    with_reducible refine s_then ?_
    with_reducible refine s_seq ?_
    refine sCT ?_
    with_reducible refine s_skip ?_
    with_reducible refine s_then ?_
    with_reducible refine s_seq ?_
    with_reducible refine s_block ?_
    with_reducible refine s_seq ?_
    with_reducible refine s_reg ?_
    refine smove ?_
    simp only [pu', p0', c1', c0', i1', z0', b8_nat]
    refine sidxE ?_
    simp only [pu', p0', c1', c0', i1', z0', b8_nat]
    refine sloadE1 ?_
    simp only [pu', p0', c1', c0', i1', z0', b8_nat]
    refine sassign ?_
    simp only [pu', p0', c1', c0', i1', z0', b8_nat]
    refine sassign ?_
    simp only [pu', p0', c1', c0', i1', z0', b8_nat]
    with_reducible refine s_end ?_
    with_reducible refine s_then ?_
    with_reducible refine s_seq ?_
    with_reducible refine s_seq ?_
    with_reducible refine s_reg ?_
    refine smove ?_
    simp only [pu', p0', c1', c0', i1', z0', b8_nat]
    refine srem ?_
    simp only [pu', p0', c1', c0', i1', z0', b8_nat]
    refine sEq (fun hb => ?_) (fun hb => ?_)
    replace hb := dT' hb
    simp only [pu', p0', c1', c0', i1', z0', b8_nat]
    with_reducible refine s_end ?_
    with_reducible refine s_then ?_
    refine sCT ?_
    with_reducible refine s_seq ?_
    with_reducible refine s_reg ?_
    refine smove ?_
    simp only [pu', p0', c1', c0', i1', z0', b8_nat]
    refine smove ?_
    simp only [pu', p0', c1', c0', i1', z0', b8_nat]
    refine sconv ?_
    simp only [pu', p0', c1', c0', i1', z0', b8_nat]
    refine sshl ?_
    simp only [pu', p0', c1', c0', i1', z0', b8_nat]
    refine sbsl ?_
    simp only [pu', p0', c1', c0', i1', n0', n3', n1', n2', a2', a1', a0', n4', Nat.reduceAdd, z0', n5', sa0, sa1, sa2, sa3, sa4, sa5, sa6, sa7, sa8, sa9, sa10, sa11]
    rotate_left 1
    replace hb := dF' hb
    simp only [pu', p0', c1', c0', i1', z0', b8_nat]
    with_reducible refine s_end ?_
    with_reducible refine s_then ?_
    refine sCF ?_
    with_reducible refine s_skip ?_
    with_reducible refine s_then ?_
    with_reducible refine s_reg ?_
    refine smove ?_
    simp only [pu', p0', c1', c0', i1', z0', b8_nat]
    refine smove ?_
    simp only [pu', p0', c1', c0', i1', z0', b8_nat]
    refine slenE ?_
    simp only [pu', p0', c1', c0', i1', z0', b8_nat]
    refine ssub ?_
    simp only [pu', p0', c1', c0', i1', z0', b8_nat]
    refine sidxE ?_
    simp only [pu', p0', c1', c0', i1', z0', b8_nat]
    refine sloadE1 ?_
    simp only [pu', p0', c1', c0', i1', z0', b8_nat]
    refine smove ?_
    simp only [pu', p0', c1', c0', i1', z0', b8_nat]
    refine sconv ?_
    simp only [pu', p0', c1', c0', i1', z0', b8_nat]
    refine sor ?_
    simp only [pu', p0', c1', c0', i1', z0', b8_nat]
    refine sidxE ?_
    simp only [pu', p0', c1', c0', i1', z0', b8_nat]
    rotate_left 1
    replace hb := dF' hb
    simp only [pu', p0', c1', c0', i1', z0', b8_nat]
    with_reducible refine s_end ?_
    with_reducible refine s_then ?_
    with_reducible refine s_seq ?_
    refine sCF ?_
    with_reducible refine s_exit ?_
    with_reducible refine s_thenE ?_
    with_reducible refine l_exit ?_
    with_reducible refine s_blkE ?_
    with_reducible refine s_then ?_
    with_reducible refine s_seq ?_
    with_reducible refine s_reg ?_
    refine smove ?_
    simp only [pu', p0', c1', c0', i1', z0', b8_nat]
    rotate_left 1
  · obtain ⟨z', H', e1, e2, e3, e4, e5⟩ := app_own' (P := Try.prog) (t := 55) (H := H ++ [.cells [B8 (l.getD i 0 * 2 ^ 4)] 5 true]) (s := z) (u := .sl H.length 0 1 1 false) (l2 := [l.getD i 0 * 2 ^ 4]) bok sl_55 el_5 (hO.ext (ext_app _ _)) (elts_at (l := [l.getD i 0 * 2 ^ 4]) bok ⟨ga0⟩ (by rfl)) (by simp only [List.length_cons, List.length_nil]; omega)
    refine s_gH (by rfl) (x_app (by exact e_any (by rfl)) (by exact e_any (by rfl)) e1) ?_
    simp only [Fr.put, List.set_cons_succ, List.set_cons_zero, Int.toNat_natCast, Nat.zero_add]
    refine sassign ?_
    simp only [pu', p0', c1', c0', i1', z0', b8_nat]
    with_reducible refine s_end ?_
    with_reducible refine s_then ?_
    with_reducible refine s_exit ?_
    with_reducible refine s_thenE ?_
    with_reducible refine s_blkE ?_
    with_reducible refine s_then ?_
    with_reducible refine s_reg ?_
    refine sadd ?_
    simp only [pu', p0', c1', c0', i1', z0', b8_nat]
    refine smove ?_
    simp only [pu', p0', c1', c0', i1', z0', b8_nat]
    with_reducible refine s_end ?_
    have e31 := e3.1
    simp at e31
    refine l_next ⟨i + 1, z', H'⟩ ⟨by simp only []; omega, ⟨by simp only []; omega, fun j hj => ?_⟩, by simp only []; rw [dirD, if_pos (by omega)]; exact e2, fun k hk => ?_⟩ (by simp only []; omega) (by rfl) rfl
    · have hzj : objOf z ≠ some j := fun hh => by have := hz j hh; omega
      simp only []
      rw [e3.2 j (by simp; omega) hzj, List.getElem?_append_left (by omega), hx.2 j hj]
    · rcases e4 k hk with h1 | h1
      · exact hz k h1
      · simp at h1; omega
  · have hodd : i % 2 = 1 := by omega
    have hor : orI .u8 ((dirD l i).getD ((dirD l i).length - 1) 0) (l.getD i 0) = (dirD l i).getD ((dirD l i).length - 1) 0 + l.getD i 0 := by
      rw [dir_last l i hodd]; exact or_nib (a3 _ (getD_mem (by omega))) (hx1 (by omega))
    obtain ⟨iw, ow, cw, ⟨cc, uu, hsw⟩, g1, g2, g3, g4⟩ := set_own (e := 5) bok hO (n := (dirD l i).length - 1) (by omega) (0:Int) (y := (dirD l i).getD ((dirD l i).length - 1) 0 + l.getD i 0) (vs := [B8 ((dirD l i).getD ((dirD l i).length - 1) 0 + l.getD i 0)]) (off := 0) (by rfl) (Nat.le_refl _)
    have g2' : ow + ((dirD l i).length - 1) * 1 < cw.length := by have h := g2; simp at h; omega
    rw [Nat.add_zero, setMany_one g2'] at g3 g4
    have hel : elP z 1 (((dirD l i).length : Int) - 1) = .ptr iw (ow + ((dirD l i).length - 1) * 1) := by rw [hsw, elP_sl, hix]
    simp only [hix, hor, hel]
    refine s_gH (by rfl) (x_store1 C1.p (by exact e_any (by rfl)) (by exact e_any (by rfl)) (by rfl) g1 g2') ?_
    simp only [Fr.put, List.set_cons_succ, List.set_cons_zero, Int.toNat_natCast, Nat.zero_add]
    with_reducible refine s_end ?_
    with_reducible refine s_blkN ?_
    with_reducible refine s_then ?_
    with_reducible refine s_reg ?_
    refine sadd ?_
    simp only [pu', p0', c1', c0', i1', z0', b8_nat]
    refine smove ?_
    simp only [pu', p0', c1', c0', i1', z0', b8_nat]
    with_reducible refine s_end ?_
    have g41 := g4.1
    rw [List.length_set] at g41
    refine l_next ⟨i + 1, z, H.set iw (.cells (cw.set (ow + ((dirD l i).length - 1) * 1) (B8 ((dirD l i).getD ((dirD l i).length - 1) 0 + l.getD i 0))) 5 true)⟩ ⟨by simp only []; omega, ⟨by simp only [List.length_set]; omega, fun j hj => ?_⟩, by simp only []; rw [dirD, if_neg (by omega)]; exact g3, hz⟩ (by simp only []; omega) (by rfl) rfl
    have hzj : objOf z ≠ some j := fun hh => by have := hz j hh; omega
    simp only []
    rw [g4.2 j (by omega) hzj, hx.2 j hj]
  · refine s_gL (by rfl) (x_str hO.elts (by exact e_any (by rfl))) ?_
    simp only [Fr.put, List.set_cons_succ, List.set_cons_zero, Int.toNat_natCast, Nat.zero_add]
    refine sassign ?_
    simp only [pu', p0', c1', c0', i1', z0', b8_nat]
    refine sassign ?_
    simp only [pu', p0', c1', c0', i1', z0', b8_nat]
    with_reducible refine s_end ?_
    with_reducible refine s_then ?_
    with_reducible refine s_ret ?_
    with_reducible refine s_ngR ?_
    all_goals try with_reducible refine w_n ?_
    all_goals refine w_2 rfl (by first | exact v_t (by rfl) | exact v_c1 (C1.p) (by rfl) (HA.p) (by rfl) | exact v_cF (CA.p) (by rfl) (HA.p) (by rfl)) (by first | exact v_t (by rfl) | exact v_c1 (C1.p) (by rfl) (HA.p) (by rfl) | exact v_cF (CA.p) (by rfl) (HA.p) (by rfl)) ?_
    rw [show i = l.length by omega]
    exact ⟨rfl, hx, rfl, trivial⟩
end Go.Proofs.Ytckljanplahbkaa
