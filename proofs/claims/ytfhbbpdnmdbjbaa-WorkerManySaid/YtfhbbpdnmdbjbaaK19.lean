/-
  A part of the proof of a statement of a chapter's seat; conditions: stated at each theorem.
-/
import Derived.Test.YtfhbbpdnmdbjbaaK18
set_option linter.unusedSimpArgs false
set_option linter.unusedVariables false
set_option linter.unusedSectionVars false
set_option maxRecDepth 100000
set_option maxHeartbeats 8000000
namespace Go.Proofs.Ytfhbbpdnmdbjbaa
open Go.Az Go
theorem bs_52o (j d : Int) : bslC Try.prog 52 1 [(0, WA j d)] = some (30, [I j, I d]) := by kernel_rfl
instance (j d : Int) : BS Try.prog 52 1 [(0, WA j d)] 30 [I j, I d] := ⟨bs_52o j d⟩
theorem inv_bd {l : List Tk} {ws : List Wk} {r : Int} (h : Inv l ws r) (hl : l.length ≤ 12) : (∀ n, n < l.length → 0 ≤ (l.getD n tk0).u ∧ (l.getD n tk0).u ≤ 1099511627776) ∧ (∀ n, n < l.length → 0 ≤ (l.getD n tk0).a ∧ (l.getD n tk0).a ≤ 1099511627776) ∧ (∀ n, n < ws.length → 0 ≤ (ws.getD n wk0).d ∧ (ws.getD n wk0).d ≤ 1099511627776) ∧ -8796093022208 ≤ leftS l ws ∧ leftS l ws ≤ 17592186044416 ∧ 0 ≤ attS l ∧ attS l ≤ 17592186044416 := by
  have h1 : ∀ n, n < l.length → 0 ≤ (l.getD n tk0).u ∧ (l.getD n tk0).u ≤ 1099511627776 := fun n hn => by have := jobs_rng h.jobs n hn; omega
  have h2 : ∀ n, n < l.length → 0 ≤ (l.getD n tk0).a ∧ (l.getD n tk0).a ≤ 1099511627776 := fun n hn => by have := jobs_rngA h.jobs n hn; omega
  have h3 : ∀ n, n < ws.length → 0 ≤ (ws.getD n wk0).d ∧ (ws.getD n wk0).d ≤ 1099511627776 := fun n hn => by
    rw [h.len] at hn
    obtain ⟨b1, b2, b3, b4, b5, b6⟩ := ck_ok (h.ck n hn)
    by_cases hj : (ws.getD n wk0).j = -1
    · have := b5 hj; omega
    · have := b6 (by omega)
      have h4 := h1 (ws.getD n wk0).j.toNat (by omega)
      omega
  have huF : ∀ n, n < l.length → 0 ≤ uF (l.getD n tk0) ∧ uF (l.getD n tk0) ≤ 1099511627776 := fun n hn => by
    have := h1 n hn
    unfold uF
    split <;> omega
  have c1 := sumF_bd uF tk0 1099511627776 (by omega) l huF l.length
  have c2 := sumF_bd Wk.d wk0 1099511627776 (by omega) ws h3 ws.length
  have c3 := sumF_bd Tk.a tk0 1099511627776 (by omega) l h2 l.length
  rw [List.take_length] at c1 c2 c3
  have hw := h.len
  refine ⟨h1, h2, h3, ?_, ?_, ?_, ?_⟩
  · unfold leftS; omega
  · unfold leftS; omega
  · unfold attS; omega
  · unfold attS; omega
structure L1 where
  i : Nat
  z : AV
  l : List Tk
  H : Hp
structure L2 where
  i : Nat
  z : AV
  H : Hp
structure L3 where
  i : Nat
  sl : AV
  l : List Tk
  sw : AV
  ws : List Wk
  H : Hp
def okT (t : Tk) : Prop := t.f = true ∧ t.o = false ∧ t.a = 0 ∧ 1 ≤ t.u ∧ t.u ≤ 5
structure OK3 (h : Hp) (b : L3) : Prop where
  ext : Ext h b.H
  tl : TS b.H b.sl b.l
  ow : Own encW 2 30 b.H b.sw b.ws
  ne : ∀ j, objOf b.sw = some j → h.length ≤ j ∧ objOf b.sl ≠ some j
  inv : Inv b.l b.ws b.i
  len : b.l.length ≤ 12
  i40 : b.i ≤ 40
theorem law6 (h : Hp) (sa sb : AV) (xs ys : List Int) (hA : Elts (encI .i64) 1 h sa xs) (hB : Elts (encI .i64) 1 h sb ys) : ACalls Try.prog 6 [sa, sb] h (fun r _ => r = B true) := by
  have iok := encI_ok .i64
  refine acalls_of_wk hm Try.func6 rfl ?_
  simp only [Try.ntmps6, List.length_cons, List.length_nil, Nat.reduceAdd, Nat.reduceSub, List.reduceReplicate, List.cons_append, List.nil_append]
  show wk _ _ none _ _ ⟨_, []⟩ _
  with_reducible refine s_seq ?_
  with_reducible refine s_reg ?_
  refine sassign ?_
  simp only [pu', p0', c1', c0', i1', z0', b8_nat]
  with_reducible refine s_end ?_
  with_reducible refine s_then ?_
  with_reducible refine s_seq ?_
  with_reducible refine s_reg ?_
  refine sK (hx := rfl) (known_any) ?_
  simp only [pu', p0', c1', c0', i1', z0', b8_nat]
  refine sassign ?_
  simp only [pu', p0', c1', c0', i1', z0', b8_nat]
  with_reducible refine s_end ?_
  with_reducible refine s_then ?_
  with_reducible refine s_seq ?_
  with_reducible refine s_reg ?_
  refine sassign ?_
  simp only [pu', p0', c1', c0', i1', z0', b8_nat]
  with_reducible refine s_end ?_
  with_reducible refine s_then ?_
  with_reducible refine s_seq ?_
  with_reducible refine s_seq ?_
  with_reducible refine s_reg ?_
  refine sassign ?_
  simp only [pu', p0', c1', c0', i1', z0', b8_nat]
  with_reducible refine s_end ?_
  with_reducible refine s_then ?_
  refine s_cut (fun (b : L1) s' => [s' 0, sb, s' 2, s' 3, s' 4, B true, b.z, s' 7, s' 8, s' 9, s' 10, s' 11, s' 12, s' 13, s' 14, s' 15, s' 16, s' 17, s' 18, s' 19, s' 20, s' 21, s' 22, s' 23, s' 24, s' 25, s' 26, s' 27, s' 28, s' 29, s' 30, s' 31, s' 32, s' 33, s' 34, s' 35, s' 36, s' 37, s' 38, s' 39, s' 40, s' 41, s' 42, s' 43, s' 44, s' 45, s' 46, s' 47, s' 48, s' 49, s' 50, s' 51, s' 52, s' 53, s' 54, s' 55, s' 56, s' 57, s' 58, s' 59, s' 60, s' 61, s' 62, s' 63, s' 64, s' 65, s' 66, s' 67, s' 68, s' 69, s' 70, s' 71, s' 72, s' 73, s' 74, s' 75, s' 76, s' 77, s' 78, s' 79, s' 80, s' 81, s' 82, s' 83, s' 84, s' 85, s' 86, s' 87, s' 88, s' 89, s' 90, s' 91, s' 92, s' 93, s' 94, s' 95, s' 96, s' 97, s' 98, s' 99, s' 100, s' 101, s' 102, s' 103, s' 104, s' 105, s' 106, s' 107, s' 108, s' 109, s' 110, s' 111, s' 112, s' 113, s' 114, s' 115, s' 116, s' 117, s' 118, s' 119, s' 120, s' 121, s' 122, s' 123, s' 124, s' 125, s' 126, s' 127, s' 128, s' 129, s' 130, s' 131, s' 132, s' 133, s' 134, s' 135, s' 136, s' 137, s' 138, s' 139, s' 140, s' 141, s' 142, s' 143, s' 144, s' 145, s' 146, s' 147, s' 148, s' 149, s' 150, s' 151, s' 152, s' 153, s' 154, s' 155, s' 156, s' 157, s' 158, s' 159, s' 160, s' 161, s' 162, s' 163, s' 164, s' 165, s' 166, s' 167, s' 168, s' 169, s' 170, s' 171, s' 172, s' 173, s' 174, s' 175, s' 176, s' 177, s' 178, s' 179, s' 180, s' 181, s' 182, s' 183, s' 184, s' 185, s' 186, s' 187, s' 188, s' 189, s' 190, s' 191, s' 192, s' 193, s' 194, s' 195, s' 196, s' 197, s' 198, s' 199, s' 200, s' 201, s' 202, s' 203, s' 204, s' 205, s' 206, s' 207, s' 208, s' 209, s' 210, s' 211, s' 212, s' 213, s' 214, s' 215, s' 216, s' 217, s' 218, s' 219, s' 220, s' 221, s' 222, s' 223, s' 224, s' 225, s' 226, s' 227, s' 228, s' 229, s' 230, s' 231, s' 232, s' 233, s' 234, s' 235, s' 236, s' 237]) (fun b => b.H) (fun b => b.l.length ≤ 12 ∧ Ext h b.H ∧ TS b.H b.z b.l ∧ (∀ t ∈ b.l, okT t) ∧ (∀ k, objOf b.z = some k → h.length ≤ k)) ?_ ?_
  · with_reducible refine s_block ?_
    refine s_loop hm (fun (b : L1) s' => [sa, sb, s' 2, s' 3, s' 4, B true, b.z, I b.i, s' 8, s' 9, s' 10, s' 11, s' 12, s' 13, s' 14, s' 15, s' 16, s' 17, s' 18, s' 19, s' 20, s' 21, s' 22, s' 23, s' 24, s' 25, s' 26, s' 27, s' 28, s' 29, s' 30, s' 31, s' 32, s' 33, s' 34, s' 35, s' 36, s' 37, s' 38, s' 39, s' 40, s' 41, s' 42, s' 43, s' 44, s' 45, s' 46, s' 47, s' 48, s' 49, s' 50, s' 51, s' 52, s' 53, s' 54, s' 55, s' 56, s' 57, s' 58, s' 59, s' 60, s' 61, s' 62, s' 63, s' 64, s' 65, s' 66, s' 67, s' 68, s' 69, s' 70, s' 71, s' 72, s' 73, s' 74, s' 75, s' 76, s' 77, s' 78, s' 79, s' 80, s' 81, s' 82, s' 83, s' 84, s' 85, s' 86, s' 87, s' 88, s' 89, s' 90, s' 91, s' 92, s' 93, s' 94, s' 95, s' 96, s' 97, s' 98, s' 99, s' 100, s' 101, s' 102, s' 103, s' 104, s' 105, s' 106, s' 107, s' 108, s' 109, s' 110, s' 111, s' 112, s' 113, s' 114, s' 115, s' 116, s' 117, s' 118, s' 119, s' 120, s' 121, s' 122, s' 123, s' 124, s' 125, s' 126, s' 127, s' 128, s' 129, s' 130, s' 131, s' 132, s' 133, s' 134, s' 135, s' 136, s' 137, s' 138, s' 139, s' 140, s' 141, s' 142, s' 143, s' 144, s' 145, s' 146, s' 147, s' 148, s' 149, s' 150, s' 151, s' 152, s' 153, s' 154, s' 155, s' 156, s' 157, s' 158, s' 159, s' 160, s' 161, s' 162, s' 163, s' 164, s' 165, s' 166, s' 167, s' 168, s' 169, s' 170, s' 171, s' 172, s' 173, s' 174, s' 175, s' 176, s' 177, s' 178, s' 179, s' 180, s' 181, s' 182, s' 183, s' 184, s' 185, s' 186, s' 187, s' 188, s' 189, s' 190, s' 191, s' 192, s' 193, s' 194, s' 195, s' 196, s' 197, s' 198, s' 199, s' 200, s' 201, s' 202, s' 203, s' 204, s' 205, s' 206, s' 207, s' 208, s' 209, s' 210, s' 211, s' 212, s' 213, s' 214, s' 215, s' 216, s' 217, s' 218, s' 219, s' 220, s' 221, s' 222, s' 223, s' 224, s' 225, s' 226, s' 227, s' 228, s' 229, s' 230, s' 231, s' 232, s' 233, s' 234, s' 235, s' 236, s' 237]) (fun b => b.H) (fun b => b.i ≤ 12 ∧ b.i ≤ xs.length ∧ Ext h b.H ∧ Own encT 4 23 b.H b.z b.l ∧ b.l.length = b.i ∧ (∀ t ∈ b.l, okT t) ∧ (∀ k, objOf b.z = some k → h.length ≤ k)) (fun b => 12 - b.i) ⟨0, .v (.slice none 0 0), [], h⟩ (by rfl) rfl ⟨by simp, by simp, Ext.refl _, .inl ⟨rfl, rfl⟩, rfl, fun t ht => (by cases ht), fun k hk => (by cases hk)⟩ ?_
    rintro ⟨i, z, l, H⟩ s' ⟨hi1, hi2, hx, hO, hl, ht, hz⟩
    simp only [] at hi1 hi2 hx hO hl ht hz ⊢
    have hA' := hA.ext hx
    have m0 := Int.emod_nonneg (xs.getD i 0) (show (5 : Int) ≠ 0 by omega)
    have m1 := Int.emod_lt_of_pos (xs.getD i 0) (show (0 : Int) < 5 by omega)
    have mm := mod_any (xs.getD i 0) 5 (by omega) (by omega)
    generalize xs.getD i 0 % 5 = u at *
    have hN : TS (H ++ [.cells (encT ⟨1 + u, true, false, 0⟩) 23 true, .cells (encT ⟨1 + u, true, false, 0⟩) 23 true]) (.sl (H.length + 1) 0 1 1 false) [⟨1 + u, true, false, 0⟩] := elts_at (l := [⟨1 + u, true, false, 0⟩]) encT_ok ⟨ga1⟩ (by rfl)
    obtain ⟨z', H', e1, e2, e3, e4, e5⟩ := app_own' (P := Try.prog) (t := 34) (H := H ++ [.cells (encT ⟨1 + u, true, false, 0⟩) 23 true, .cells (encT ⟨1 + u, true, false, 0⟩) 23 true]) (s := z) (u := .sl (H.length + 1) 0 1 1 false) (l2 := [⟨1 + u, true, false, 0⟩]) encT_ok sl_34 el_23 (hO.ext (ext_app _ _)) hN (by simp; omega)
    have el1 := mkEL iok (0:Int) hA'
    focus
      with_reducible refine s_seq ?_
      with_reducible refine s_seq ?_
      with_reducible refine s_reg ?_
      refine smove ?_
      simp only [pu', p0', c1', c0', i1', z0', b8_nat]
      refine smove ?_
      simp only [pu', p0', c1', c0', i1', z0', b8_nat]
      refine slenE ?_
      simp only [pu', p0', c1', c0', i1', z0', b8_nat]
      refine sLt (fun hb => ?_) (fun hb => ?_)
      replace hb := dT' hb
      simp only [pu', p0', c1', c0', i1', z0', b8_nat]
      refine smove ?_
      simp only [pu', p0', c1', c0', i1', z0', b8_nat]
      refine smove ?_
      simp only [pu', p0', c1', c0', i1', z0', b8_nat]
      refine sLt (fun hb => ?_) (fun hb => ?_)
      replace hb := dT' hb
      simp only [pu', p0', c1', c0', i1', z0', b8_nat]
      refine spickT ?_
      simp only [pu', p0', c1', c0', i1', z0', b8_nat]
      with_reducible refine s_end ?_
      with_reducible refine s_then ?_
      refine sCT ?_
      with_reducible refine s_skip ?_
      with_reducible refine s_then ?_
      with_reducible refine s_seq ?_
      with_reducible refine s_block ?_
      with_reducible refine s_seq ?_
      with_reducible refine s_reg ?_
      refine smove ?_
      simp only [pu', p0', c1', c0', i1', z0', b8_nat]
      refine smove ?_
      simp only [pu', p0', c1', c0', i1', z0', b8_nat]
      refine sidxE ?_
      simp only [pu', p0', c1', c0', i1', z0', b8_nat]
      refine sloadE1 ?_
      simp only [pu', p0', c1', c0', i1', z0', b8_nat]
      refine sK (hx := rfl) (mm) ?_
      simp only [pu', p0', c1', c0', i1', z0', b8_nat]
      refine sadd ?_
      simp only [pu', p0', c1', c0', i1', z0', b8_nat]
      refine sK (hx := rfl) (task_ok (1 + u) (by omega) (by omega)) ?_
      simp only [pu', p0', c1', c0', i1', z0', b8_nat]
      refine smove ?_
      simp only [pu', p0', c1', c0', i1', z0', b8_nat]
      refine sext ?_
      simp only [pu', p0', c1', c0', i1', z0', b8_nat]
      refine sext ?_
      simp only [pu', p0', c1', c0', i1', z0', b8_nat]
      refine salloc ?_
      simp only [pu', p0', c1', c0', i1', n0', n3', n1', n2', a2', a1', a0', n4', Nat.reduceAdd, z0', n5', sa0, sa1, sa2, sa3, sa4, sa5, sa6, sa7, sa8, sa9, sa10, sa11]
      refine sstoreF ?_
      simp only [pu', p0', c1', c0', i1', n0', n3', n1', n2', a2', a1', a0', n4', Nat.reduceAdd, z0', n5', sa0, sa1, sa2, sa3, sa4, sa5, sa6, sa7, sa8, sa9, sa10, sa11]
      refine sassign ?_
      simp only [pu', p0', c1', c0', i1', z0', b8_nat]
      with_reducible refine s_end ?_
      with_reducible refine s_then ?_
      with_reducible refine s_seq ?_
      with_reducible refine s_seq ?_
      with_reducible refine s_reg ?_
      refine smove ?_
      simp only [pu', p0', c1', c0', i1', z0', b8_nat]
      refine sNe (fun hb => ?_) (fun hb => ?_)
      replace hb := dT' hb
      (exfalso; omega)
      replace hb := dF' hb
      simp only [pu', p0', c1', c0', i1', z0', b8_nat]
      with_reducible refine s_end ?_
      with_reducible refine s_then ?_
      refine sCF ?_
      with_reducible refine s_skip ?_
      with_reducible refine s_then ?_
      with_reducible refine s_reg ?_
      refine smove ?_
      simp only [pu', p0', c1', c0', i1', z0', b8_nat]
      refine sloadW ?_
      simp only [pu', p0', c1', c0', i1', z0', b8_nat]
      refine sbsl ?_
      simp only [pu', p0', c1', c0', i1', n0', n3', n1', n2', a2', a1', a0', n4', Nat.reduceAdd, z0', n5', sa0, sa1, sa2, sa3, sa4, sa5, sa6, sa7, sa8, sa9, sa10, sa11]
      rotate_left 1
      replace hb := dF' hb
      simp only [pu', p0', c1', c0', i1', z0', b8_nat]
      refine spickT ?_
      simp only [pu', p0', c1', c0', i1', z0', b8_nat]
      with_reducible refine s_end ?_
      with_reducible refine s_then ?_
      refine sCF ?_
      with_reducible refine s_exit ?_
      with_reducible refine s_thenE ?_
      with_reducible refine l_exit ?_
      with_reducible refine s_blkE ?_
      with_reducible refine s_then ?_
      rotate_left 1
      replace hb := dF' hb
      simp only [pu', p0', c1', c0', i1', z0', b8_nat]
      refine smove ?_
      simp only [pu', p0', c1', c0', i1', z0', b8_nat]
      refine sN ?_
      simp only [pu', p0', c1', c0', i1', z0', b8_nat]
      refine sN ?_
      simp only [pu', p0', c1', c0', i1', z0', b8_nat]
      refine spickF ?_
      simp only [pu', p0', c1', c0', i1', z0', b8_nat]
      with_reducible refine s_end ?_
      with_reducible refine s_then ?_
      refine sCF ?_
      with_reducible refine s_exit ?_
      with_reducible refine s_thenE ?_
      with_reducible refine l_exit ?_
      with_reducible refine s_blkE ?_
      with_reducible refine s_then ?_
      rotate_left 1
    · refine s_gH (by rfl) (x_app (by exact e_any (by rfl)) (by exact e_any (by rfl)) e1) ?_
      simp only [Fr.put, List.set_cons_succ, List.set_cons_zero, Int.toNat_natCast, Nat.zero_add]
      refine sassign ?_
      simp only [pu', p0', c1', c0', i1', z0', b8_nat]
      with_reducible refine s_end ?_
      with_reducible refine s_blkN ?_
      with_reducible refine s_then ?_
      with_reducible refine s_reg ?_
      refine smove ?_
      simp only [pu', p0', c1', c0', i1', z0', b8_nat]
      refine sadd ?_
      simp only [pu', p0', c1', c0', i1', z0', b8_nat]
      refine sassign ?_
      simp only [pu', p0', c1', c0', i1', z0', b8_nat]
      with_reducible refine s_end ?_
      refine l_next ⟨i + 1, z', l ++ [⟨1 + u, true, false, 0⟩], H'⟩ ⟨by simp only []; omega, by simp only []; omega, ?_, e2, by simp [hl], ?_, ?_⟩ (by simp only []; omega) (by rfl) rfl
      · have hxl := hx.1
        have e31 := e3.1
        simp at e31
        refine ⟨by simp only []; omega, fun j hj => ?_⟩
        have hzj : objOf z ≠ some j := fun hh => by have := hz j hh; omega
        rw [e3.2 j (by simp; omega) hzj, List.getElem?_append_left (by omega), hx.2 j hj]
      · intro t h1
        rcases List.mem_append.1 h1 with h1 | h1
        · exact ht t h1
        · simp at h1; subst h1; exact ⟨rfl, rfl, rfl, by show 1 ≤ 1 + u; omega, by show 1 + u ≤ 5; omega⟩
      · intro k hk
        rcases e4 k hk with h1 | h1
        · exact hz k h1
        · simp at h1; have := hx.1; omega
    all_goals
      refine at_in ⟨i, z, l, H⟩ ⟨by simp only []; omega, hx, hO.elts, ht, hz⟩ (by rfl) rfl
  rintro ⟨i0, z, l, H0⟩ s' ⟨hl, hx0, hS0, ht, hz⟩
  simp only [] at hl hx0 hS0 ht hz ⊢
  with_reducible refine s_seq ?_
  with_reducible refine s_reg ?_
  refine sassign ?_
  simp only [pu', p0', c1', c0', i1', z0', b8_nat]
  with_reducible refine s_end ?_
  with_reducible refine s_then ?_
  with_reducible refine s_seq ?_
  with_reducible refine s_seq ?_
  with_reducible refine s_reg ?_
  refine sassign ?_
  simp only [pu', p0', c1', c0', i1', z0', b8_nat]
  with_reducible refine s_end ?_
  with_reducible refine s_then ?_
  refine s_cut (fun (b : L2) s' => [s' 0, sb, s' 2, s' 3, s' 4, B true, z, s' 7, s' 8, s' 9, b.z, s' 11, s' 12, s' 13, s' 14, s' 15, s' 16, s' 17, s' 18, s' 19, s' 20, s' 21, s' 22, s' 23, s' 24, s' 25, s' 26, s' 27, s' 28, s' 29, s' 30, s' 31, s' 32, s' 33, s' 34, s' 35, s' 36, s' 37, s' 38, s' 39, s' 40, s' 41, s' 42, s' 43, s' 44, s' 45, s' 46, s' 47, s' 48, s' 49, s' 50, s' 51, s' 52, s' 53, s' 54, s' 55, s' 56, s' 57, s' 58, s' 59, s' 60, s' 61, s' 62, s' 63, s' 64, s' 65, s' 66, s' 67, s' 68, s' 69, s' 70, s' 71, s' 72, s' 73, s' 74, s' 75, s' 76, s' 77, s' 78, s' 79, s' 80, s' 81, s' 82, s' 83, s' 84, s' 85, s' 86, s' 87, s' 88, s' 89, s' 90, s' 91, s' 92, s' 93, s' 94, s' 95, s' 96, s' 97, s' 98, s' 99, s' 100, s' 101, s' 102, s' 103, s' 104, s' 105, s' 106, s' 107, s' 108, s' 109, s' 110, s' 111, s' 112, s' 113, s' 114, s' 115, s' 116, s' 117, s' 118, s' 119, s' 120, s' 121, s' 122, s' 123, s' 124, s' 125, s' 126, s' 127, s' 128, s' 129, s' 130, s' 131, s' 132, s' 133, s' 134, s' 135, s' 136, s' 137, s' 138, s' 139, s' 140, s' 141, s' 142, s' 143, s' 144, s' 145, s' 146, s' 147, s' 148, s' 149, s' 150, s' 151, s' 152, s' 153, s' 154, s' 155, s' 156, s' 157, s' 158, s' 159, s' 160, s' 161, s' 162, s' 163, s' 164, s' 165, s' 166, s' 167, s' 168, s' 169, s' 170, s' 171, s' 172, s' 173, s' 174, s' 175, s' 176, s' 177, s' 178, s' 179, s' 180, s' 181, s' 182, s' 183, s' 184, s' 185, s' 186, s' 187, s' 188, s' 189, s' 190, s' 191, s' 192, s' 193, s' 194, s' 195, s' 196, s' 197, s' 198, s' 199, s' 200, s' 201, s' 202, s' 203, s' 204, s' 205, s' 206, s' 207, s' 208, s' 209, s' 210, s' 211, s' 212, s' 213, s' 214, s' 215, s' 216, s' 217, s' 218, s' 219, s' 220, s' 221, s' 222, s' 223, s' 224, s' 225, s' 226, s' 227, s' 228, s' 229, s' 230, s' 231, s' 232, s' 233, s' 234, s' 235, s' 236, s' 237]) (fun b => b.H) (fun b => Ext h b.H ∧ TS b.H z l ∧ Own encW 2 30 b.H b.z (List.replicate 4 wk0) ∧ (∀ k, objOf b.z = some k → h.length ≤ k ∧ objOf z ≠ some k)) ?_ ?_
  · with_reducible refine s_block ?_
    refine s_loop hm (fun (b : L2) s' => [s' 0, sb, s' 2, s' 3, s' 4, B true, z, s' 7, s' 8, s' 9, b.z, I b.i, s' 12, s' 13, s' 14, s' 15, s' 16, s' 17, s' 18, s' 19, s' 20, s' 21, s' 22, s' 23, s' 24, s' 25, s' 26, s' 27, s' 28, s' 29, s' 30, s' 31, s' 32, s' 33, s' 34, s' 35, s' 36, s' 37, s' 38, s' 39, s' 40, s' 41, s' 42, s' 43, s' 44, s' 45, s' 46, s' 47, s' 48, s' 49, s' 50, s' 51, s' 52, s' 53, s' 54, s' 55, s' 56, s' 57, s' 58, s' 59, s' 60, s' 61, s' 62, s' 63, s' 64, s' 65, s' 66, s' 67, s' 68, s' 69, s' 70, s' 71, s' 72, s' 73, s' 74, s' 75, s' 76, s' 77, s' 78, s' 79, s' 80, s' 81, s' 82, s' 83, s' 84, s' 85, s' 86, s' 87, s' 88, s' 89, s' 90, s' 91, s' 92, s' 93, s' 94, s' 95, s' 96, s' 97, s' 98, s' 99, s' 100, s' 101, s' 102, s' 103, s' 104, s' 105, s' 106, s' 107, s' 108, s' 109, s' 110, s' 111, s' 112, s' 113, s' 114, s' 115, s' 116, s' 117, s' 118, s' 119, s' 120, s' 121, s' 122, s' 123, s' 124, s' 125, s' 126, s' 127, s' 128, s' 129, s' 130, s' 131, s' 132, s' 133, s' 134, s' 135, s' 136, s' 137, s' 138, s' 139, s' 140, s' 141, s' 142, s' 143, s' 144, s' 145, s' 146, s' 147, s' 148, s' 149, s' 150, s' 151, s' 152, s' 153, s' 154, s' 155, s' 156, s' 157, s' 158, s' 159, s' 160, s' 161, s' 162, s' 163, s' 164, s' 165, s' 166, s' 167, s' 168, s' 169, s' 170, s' 171, s' 172, s' 173, s' 174, s' 175, s' 176, s' 177, s' 178, s' 179, s' 180, s' 181, s' 182, s' 183, s' 184, s' 185, s' 186, s' 187, s' 188, s' 189, s' 190, s' 191, s' 192, s' 193, s' 194, s' 195, s' 196, s' 197, s' 198, s' 199, s' 200, s' 201, s' 202, s' 203, s' 204, s' 205, s' 206, s' 207, s' 208, s' 209, s' 210, s' 211, s' 212, s' 213, s' 214, s' 215, s' 216, s' 217, s' 218, s' 219, s' 220, s' 221, s' 222, s' 223, s' 224, s' 225, s' 226, s' 227, s' 228, s' 229, s' 230, s' 231, s' 232, s' 233, s' 234, s' 235, s' 236, s' 237]) (fun b => b.H) (fun b => b.i ≤ 4 ∧ Ext h b.H ∧ TS b.H z l ∧ Own encW 2 30 b.H b.z (List.replicate b.i wk0) ∧ (∀ k, objOf b.z = some k → h.length ≤ k ∧ objOf z ≠ some k)) (fun b => 4 - b.i) ⟨0, .v (.slice none 0 0), H0⟩ (by rfl) rfl ⟨by simp, hx0, hS0, .inl ⟨rfl, rfl⟩, fun k hk => (by cases hk)⟩ ?_
    rintro ⟨i, z2, H⟩ s' ⟨hi1, hx, hS, hO, hz2⟩
    simp only [] at hi1 hx hS hO hz2 ⊢
    have hN : Elts encW 2 (H ++ [.cells (encW wk0) 30 true]) (.sl H.length 0 1 1 false) [wk0] := elts_at (l := [wk0]) encW_ok ⟨ga0⟩ (by rfl)
    obtain ⟨z', H', e1, e2, e3, e4, e5⟩ := app_own' (P := Try.prog) (t := 52) (H := H ++ [.cells (encW wk0) 30 true]) (s := z2) (u := .sl H.length 0 1 1 false) (l2 := [wk0]) encW_ok sl_52 el_30 (hO.ext (ext_app _ _)) hN (by simp; omega)
    focus
      with_reducible refine s_seq ?_
      with_reducible refine s_seq ?_
      with_reducible refine s_reg ?_
      refine smove ?_
      simp only [pu', p0', c1', c0', i1', z0', b8_nat]
      refine sLt (fun hb => ?_) (fun hb => ?_)
      replace hb := dT' hb
      simp only [pu', p0', c1', c0', i1', z0', b8_nat]
      with_reducible refine s_end ?_
      with_reducible refine s_then ?_
      refine sCT ?_
      with_reducible refine s_skip ?_
      with_reducible refine s_then ?_
      with_reducible refine s_seq ?_
      with_reducible refine s_block ?_
      with_reducible refine s_reg ?_
      refine smove ?_
      simp only [pu', p0', c1', c0', i1', z0', b8_nat]
      refine sK (hx := rfl) (idle_any) ?_
      simp only [pu', p0', c1', c0', i1', z0', b8_nat]
      refine sbsl ?_
      simp only [pu', p0', c1', c0', i1', n0', n3', n1', n2', a2', a1', a0', n4', Nat.reduceAdd, z0', n5', sa0, sa1, sa2, sa3, sa4, sa5, sa6, sa7, sa8, sa9, sa10, sa11]
      rotate_left 1
      replace hb := dF' hb
      simp only [pu', p0', c1', c0', i1', z0', b8_nat]
      with_reducible refine s_end ?_
      with_reducible refine s_then ?_
      refine sCF ?_
      with_reducible refine s_exit ?_
      with_reducible refine s_thenE ?_
      with_reducible refine l_exit ?_
      with_reducible refine s_blkE ?_
      with_reducible refine s_then ?_
      rotate_left 1
    · refine s_gH (by rfl) (x_app (by exact e_any (by rfl)) (by exact e_any (by rfl)) e1) ?_
      simp only [Fr.put, List.set_cons_succ, List.set_cons_zero, Int.toNat_natCast, Nat.zero_add]
      refine sassign ?_
      simp only [pu', p0', c1', c0', i1', z0', b8_nat]
      with_reducible refine s_end ?_
      with_reducible refine s_blkN ?_
      with_reducible refine s_then ?_
      with_reducible refine s_reg ?_
      refine smove ?_
      simp only [pu', p0', c1', c0', i1', z0', b8_nat]
      refine sadd ?_
      simp only [pu', p0', c1', c0', i1', z0', b8_nat]
      refine sassign ?_
      simp only [pu', p0', c1', c0', i1', z0', b8_nat]
      with_reducible refine s_end ?_
      have hoz : ∀ k, objOf z = some k → k < H.length := fun k hk => hS.lt hk
      have hxl := hx.1
      have e31 := e3.1
      simp at e31
      refine l_next ⟨i + 1, z', H'⟩ ⟨by simp only []; omega, ?_, ?_, by rw [show List.replicate (i + 1) wk0 = List.replicate i wk0 ++ [wk0] from List.replicate_succ']; exact e2, ?_⟩ (by simp only []; omega) (by rfl) rfl
      · refine ⟨by simp only []; omega, fun j hj => ?_⟩
        have hzj : objOf z2 ≠ some j := fun hh => by have := (hz2 j hh).1; omega
        rw [e3.2 j (by simp; omega) hzj, List.getElem?_append_left (by omega), hx.2 j hj]
      · refine (hS.ext (ext_app _ _)).oth e3 fun k hk hh => (hz2 k hh).2 hk
      · intro k hk
        rcases e4 k hk with h1 | h1
        · exact hz2 k h1
        · simp at h1
          exact ⟨by omega, fun hh => by have := hoz k hh; omega⟩
    all_goals
      refine at_in ⟨i, z2, H⟩ ⟨hx, hS, by rw [show 4 = i by omega]; exact hO, hz2⟩ (by rfl) rfl
  rintro ⟨i0, z2, H1⟩ s' ⟨hx1, hS1, hO1, hz2⟩
  simp only [] at hx1 hS1 hO1 hz2 ⊢
  have hinv : Inv l (List.replicate 4 wk0) 0 := by
    have hj : jobsE l = 0 := (jobsE_iff l).2 ⟨by omega, fun t h1 => errT_iff.2 (by have := ht t h1; simp only [okT] at this; refine ⟨by omega, by omega, by omega, by omega, fun hh => ?_⟩; rw [this.2.1] at hh; cases hh.2)⟩
    have hg : ∀ k, k < 4 → (List.replicate 4 wk0).getD k wk0 = wk0 := fun k hk => by
      have : k = 0 ∨ k = 1 ∨ k = 2 ∨ k = 3 := by omega
      rcases this with rfl | rfl | rfl | rfl <;> rfl
    refine ⟨hj, rfl, fun k hk => ?_, fun k k' hk hk' _ h0 => ?_, fun n hn => ?_⟩
    · rw [hg k hk]; exact ck3 hj (by show ¬ ((-1 : Int) < -1 ∨ (l.length : Int) ≤ -1); omega) rfl rfl
    · rw [hg k hk] at h0; exact absurd h0 (by show ¬ (0 : Int) ≤ -1; omega)
    · have := ht _ (getD_mem (d := tk0) hn)
      simp only [okT] at this
      omega
  with_reducible refine s_seq ?_
  with_reducible refine s_seq ?_
  with_reducible refine s_reg ?_
  refine sassign ?_
  simp only [pu', p0', c1', c0', i1', z0', b8_nat]
  with_reducible refine s_end ?_
  with_reducible refine s_then ?_
  with_reducible refine s_block ?_
  refine s_loop hm (fun (b : L3) s' => [s' 0, sb, s' 2, s' 3, s' 4, B true, b.sl, s' 7, s' 8, s' 9, b.sw, s' 11, I b.i, s' 13, s' 14, s' 15, s' 16, s' 17, s' 18, s' 19, s' 20, s' 21, s' 22, s' 23, s' 24, s' 25, s' 26, s' 27, s' 28, s' 29, s' 30, s' 31, s' 32, s' 33, s' 34, s' 35, s' 36, s' 37, s' 38, s' 39, s' 40, s' 41, s' 42, s' 43, s' 44, s' 45, s' 46, s' 47, s' 48, s' 49, s' 50, s' 51, s' 52, s' 53, s' 54, s' 55, s' 56, s' 57, s' 58, s' 59, s' 60, s' 61, s' 62, s' 63, s' 64, s' 65, s' 66, s' 67, s' 68, s' 69, s' 70, s' 71, s' 72, s' 73, s' 74, s' 75, s' 76, s' 77, s' 78, s' 79, s' 80, s' 81, s' 82, s' 83, s' 84, s' 85, s' 86, s' 87, s' 88, s' 89, s' 90, s' 91, s' 92, s' 93, s' 94, s' 95, s' 96, s' 97, s' 98, s' 99, s' 100, s' 101, s' 102, s' 103, s' 104, s' 105, s' 106, s' 107, s' 108, s' 109, s' 110, s' 111, s' 112, s' 113, s' 114, s' 115, s' 116, s' 117, s' 118, s' 119, s' 120, s' 121, s' 122, s' 123, s' 124, s' 125, s' 126, s' 127, s' 128, s' 129, s' 130, s' 131, s' 132, s' 133, s' 134, s' 135, s' 136, s' 137, s' 138, s' 139, s' 140, s' 141, s' 142, s' 143, s' 144, s' 145, s' 146, s' 147, s' 148, s' 149, s' 150, s' 151, s' 152, s' 153, s' 154, s' 155, s' 156, s' 157, s' 158, s' 159, s' 160, s' 161, s' 162, s' 163, s' 164, s' 165, s' 166, s' 167, s' 168, s' 169, s' 170, s' 171, s' 172, s' 173, s' 174, s' 175, s' 176, s' 177, s' 178, s' 179, s' 180, s' 181, s' 182, s' 183, s' 184, s' 185, s' 186, s' 187, s' 188, s' 189, s' 190, s' 191, s' 192, s' 193, s' 194, s' 195, s' 196, s' 197, s' 198, s' 199, s' 200, s' 201, s' 202, s' 203, s' 204, s' 205, s' 206, s' 207, s' 208, s' 209, s' 210, s' 211, s' 212, s' 213, s' 214, s' 215, s' 216, s' 217, s' 218, s' 219, s' 220, s' 221, s' 222, s' 223, s' 224, s' 225, s' 226, s' 227, s' 228, s' 229, s' 230, s' 231, s' 232, s' 233, s' 234, s' 235, s' 236, s' 237]) (fun b => b.H) (OK3 h) (fun b => 40 - b.i) ⟨0, z, l, z2, List.replicate 4 wk0, H1⟩ (by rfl) rfl ⟨hx1, hS1, hO1, hz2, hinv, hl, by simp⟩ ?_
  rintro ⟨i, sl, l, sw, ws, H⟩ s' ⟨hx, hS, hO, hz, hI, hl, hi40⟩
  simp only [] at hx hS hO hz hI hl hi40 ⊢
  have hB' := hB.ext hx
  have k0 := Int.emod_nonneg (ys.getD i 0) (show (1048576 : Int) ≠ 0 by omega)
  have k1 := Int.emod_lt_of_pos (ys.getD i 0) (show (0 : Int) < 1048576 by omega)
  have mm := mod_any (ys.getD i 0) 1048576 (by omega) (by omega)
  generalize ys.getD i 0 % 1048576 = k at *
  have el2 := mkEL iok (0:Int) hB'
  focus
    with_reducible refine s_seq ?_
    with_reducible refine s_seq ?_
    with_reducible refine s_reg ?_
    refine smove ?_
    simp only [pu', p0', c1', c0', i1', z0', b8_nat]
    refine smove ?_
    simp only [pu', p0', c1', c0', i1', z0', b8_nat]
    refine slenE ?_
    simp only [pu', p0', c1', c0', i1', z0', b8_nat]
    refine sLt (fun hb => ?_) (fun hb => ?_)
    replace hb := dT' hb
    simp only [pu', p0', c1', c0', i1', z0', b8_nat]
    refine smove ?_
    simp only [pu', p0', c1', c0', i1', z0', b8_nat]
    refine smove ?_
    simp only [pu', p0', c1', c0', i1', z0', b8_nat]
    refine sLt (fun hb => ?_) (fun hb => ?_)
    replace hb := dT' hb
    simp only [pu', p0', c1', c0', i1', z0', b8_nat]
    refine spickT ?_
    simp only [pu', p0', c1', c0', i1', z0', b8_nat]
    with_reducible refine s_end ?_
    with_reducible refine s_then ?_
    refine sCT ?_
    with_reducible refine s_skip ?_
    with_reducible refine s_then ?_
    with_reducible refine s_seq ?_
    with_reducible refine s_block ?_
    with_reducible refine s_seq ?_
    with_reducible refine s_reg ?_
    refine smove ?_
    simp only [pu', p0', c1', c0', i1', z0', b8_nat]
    refine smove ?_
    simp only [pu', p0', c1', c0', i1', z0', b8_nat]
    refine sidxE ?_
    simp only [pu', p0', c1', c0', i1', z0', b8_nat]
    refine sloadE1 ?_
    simp only [pu', p0', c1', c0', i1', z0', b8_nat]
    refine sK (hx := rfl) (mm) ?_
    simp only [pu', p0', c1', c0', i1', z0', b8_nat]
    refine sassign ?_
    simp only [pu', p0', c1', c0', i1', z0', b8_nat]
    with_reducible refine s_end ?_
    with_reducible refine s_then ?_
    with_reducible refine s_seq ?_
    rotate_left 1
    replace hb := dF' hb
    simp only [pu', p0', c1', c0', i1', z0', b8_nat]
    refine spickT ?_
    simp only [pu', p0', c1', c0', i1', z0', b8_nat]
    with_reducible refine s_end ?_
    with_reducible refine s_then ?_
    refine sCF ?_
    with_reducible refine s_exit ?_
    with_reducible refine s_thenE ?_
    with_reducible refine l_exit ?_
    with_reducible refine s_blkE ?_
    with_reducible refine s_then ?_
    with_reducible refine s_seq ?_
    with_reducible refine s_reg ?_
    refine smove ?_
    simp only [pu', p0', c1', c0', i1', z0', b8_nat]
    refine sassign ?_
    simp only [pu', p0', c1', c0', i1', z0', b8_nat]
    with_reducible refine s_end ?_
    with_reducible refine s_then ?_
    with_reducible refine s_ret ?_
    rotate_left 1
    replace hb := dF' hb
    simp only [pu', p0', c1', c0', i1', z0', b8_nat]
    refine smove ?_
    simp only [pu', p0', c1', c0', i1', z0', b8_nat]
    refine sN ?_
    simp only [pu', p0', c1', c0', i1', z0', b8_nat]
    refine sN ?_
    simp only [pu', p0', c1', c0', i1', z0', b8_nat]
    refine spickF ?_
    simp only [pu', p0', c1', c0', i1', z0', b8_nat]
    with_reducible refine s_end ?_
    with_reducible refine s_then ?_
    refine sCF ?_
    with_reducible refine s_exit ?_
    with_reducible refine s_thenE ?_
    with_reducible refine l_exit ?_
    with_reducible refine s_blkE ?_
    with_reducible refine s_then ?_
    with_reducible refine s_seq ?_
    with_reducible refine s_reg ?_
    refine smove ?_
    simp only [pu', p0', c1', c0', i1', z0', b8_nat]
    refine sassign ?_
    simp only [pu', p0', c1', c0', i1', z0', b8_nat]
    with_reducible refine s_end ?_
    with_reducible refine s_then ?_
    with_reducible refine s_ret ?_
    rotate_left 1
  rotate_left 1
  · ((try with_reducible refine w_n ?_); refine w_1 rfl (by first | exact v_t (by rfl) | exact v_c1 (C1.p) (by rfl) (HA.p) (by rfl) | exact v_cF (CA.p) (by rfl) (HA.p) (by rfl)) ?_)
    rfl
  · ((try with_reducible refine w_n ?_); refine w_1 rfl (by first | exact v_t (by rfl) | exact v_c1 (C1.p) (by rfl) (HA.p) (by rfl) | exact v_cF (CA.p) (by rfl) (HA.p) (by rfl)) ?_)
    rfl
  refine s_cut (fun (b : Bool) s' => [s' 0, sb, s' 2, s' 3, s' 4, B true, sl, s' 7, s' 8, s' 9, sw, s' 11, I i, s' 13, I (k % 4), B b, s' 16, s' 17, s' 18, s' 19, s' 20, s' 21, s' 22, s' 23, s' 24, s' 25, s' 26, s' 27, s' 28, s' 29, s' 30, s' 31, s' 32, s' 33, s' 34, s' 35, s' 36, s' 37, s' 38, s' 39, s' 40, s' 41, s' 42, s' 43, s' 44, s' 45, s' 46, s' 47, s' 48, s' 49, s' 50, s' 51, s' 52, s' 53, s' 54, s' 55, s' 56, s' 57, s' 58, s' 59, s' 60, s' 61, s' 62, s' 63, s' 64, s' 65, s' 66, s' 67, s' 68, s' 69, s' 70, s' 71, s' 72, s' 73, s' 74, s' 75, s' 76, s' 77, s' 78, s' 79, s' 80, s' 81, s' 82, s' 83, s' 84, s' 85, s' 86, s' 87, s' 88, s' 89, s' 90, s' 91, s' 92, s' 93, s' 94, s' 95, s' 96, s' 97, s' 98, s' 99, s' 100, s' 101, s' 102, s' 103, s' 104, s' 105, s' 106, s' 107, s' 108, s' 109, s' 110, s' 111, s' 112, s' 113, s' 114, s' 115, s' 116, s' 117, s' 118, s' 119, s' 120, s' 121, s' 122, s' 123, s' 124, s' 125, s' 126, s' 127, s' 128, s' 129, s' 130, s' 131, s' 132, s' 133, s' 134, s' 135, s' 136, s' 137, s' 138, s' 139, s' 140, s' 141, s' 142, s' 143, s' 144, s' 145, s' 146, s' 147, s' 148, s' 149, s' 150, s' 151, s' 152, s' 153, s' 154, s' 155, s' 156, s' 157, s' 158, s' 159, s' 160, s' 161, s' 162, s' 163, s' 164, s' 165, s' 166, s' 167, s' 168, s' 169, s' 170, s' 171, s' 172, s' 173, s' 174, s' 175, s' 176, s' 177, s' 178, s' 179, s' 180, s' 181, s' 182, s' 183, s' 184, s' 185, s' 186, s' 187, s' 188, s' 189, s' 190, s' 191, s' 192, s' 193, s' 194, s' 195, s' 196, s' 197, s' 198, s' 199, s' 200, s' 201, s' 202, s' 203, s' 204, s' 205, s' 206, s' 207, s' 208, s' 209, s' 210, s' 211, s' 212, s' 213, s' 214, s' 215, s' 216, s' 217, s' 218, s' 219, s' 220, s' 221, s' 222, s' 223, s' 224, s' 225, s' 226, s' 227, s' 228, s' 229, s' 230, s' 231, s' 232, s' 233, s' 234, s' 235, s' 236, s' 237]) (fun _ => H) (fun _ => True) ?_ ?_
  · with_reducible refine s_reg ?_
    refine smove ?_
    simp only [pu', p0', c1', c0', i1', z0', b8_nat]
    refine srem ?_
    simp only [pu', p0', c1', c0', i1', z0', b8_nat]
    refine smove ?_
    simp only [pu', p0', c1', c0', i1', z0', b8_nat]
    refine squo ?_
    simp only [pu', p0', c1', c0', i1', z0', b8_nat]
    refine srem ?_
    simp only [pu', p0', c1', c0', i1', z0', b8_nat]
    refine sEq (fun hb => ?_) (fun hb => ?_)
    replace hb := dT' hb
    simp only [pu', p0', c1', c0', i1', z0', b8_nat]
    refine sassign ?_
    simp only [pu', p0', c1', c0', i1', z0', b8_nat]
    refine sassign ?_
    simp only [pu', p0', c1', c0', i1', z0', b8_nat]
    with_reducible refine s_end ?_
    with_reducible refine s_then ?_
    rotate_left 1
    replace hb := dF' hb
    simp only [pu', p0', c1', c0', i1', z0', b8_nat]
    refine sassign ?_
    simp only [pu', p0', c1', c0', i1', z0', b8_nat]
    refine sassign ?_
    simp only [pu', p0', c1', c0', i1', z0', b8_nat]
    with_reducible refine s_end ?_
    with_reducible refine s_then ?_
    rotate_left 1
    · exact at_in true trivial (by rfl) rfl
    · exact at_in false trivial (by rfl) rfl
  intro fb s' _
  have a0 := Int.emod_nonneg k (show (4 : Int) ≠ 0 by omega)
  have a1 := Int.emod_lt_of_pos k (show (0 : Int) < 4 by omega)
  generalize k % 4 = at' at *
  obtain ⟨a, rfl⟩ := Int.eq_ofNat_of_zero_le a0
  have ha4 : a < 4 := by omega
  have ps := pick_spec (b := fb) hI (by omega) ha4
  have cp := fun X (e : TS X sl l) => pick_any (ws.getD a wk0).j (ws.getD a wk0).d fb X sl l e (by omega)
  have cb := fun X (e : TS X sl l) => busy_any (ws.getD a wk0).j (ws.getD a wk0).d X sl l e (by omega)
  generalize pickP (ws.getD a wk0).j (ws.getD a wk0).d l fb = p at *
  obtain ⟨bz, hbz, hcs⟩ : ∃ bz, busyR (ws.getD a wk0).j (ws.getD a wk0).d l = .tup [B bz, I 0] ∧ ((p.w = 0 ∧ bz = false) ∨ (p.w = 4 ∧ bz = true ∧ fb = true) ∨ (1 ≤ p.w ∧ p.w ≤ 3 ∧ bz = true ∧ fb = false)) := by
    rcases ps.cs with ⟨q1, q2⟩ | ⟨q1, q2, q3⟩ | ⟨q1, q2, q3, q4⟩
    · exact ⟨false, q2, .inl ⟨q1, rfl⟩⟩
    · exact ⟨true, q3, .inr (.inl ⟨q1, rfl, q2⟩)⟩
    · exact ⟨true, q4, .inr (.inr ⟨q1, q2, rfl, q3⟩)⟩
  rw [hbz] at cb
  have he0 := ps.e0
  have hpl := ps.len
  have hwl := hI.len
  have el3 := mkEL encW_ok wk0 hO.elts
  have el4 := mkEL encT_ok tk0 hS
  with_reducible refine s_seq ?_
  with_reducible refine s_reg ?_
  refine smove ?_
  simp only [pu', p0', c1', c0', i1', z0', b8_nat]
  refine smove ?_
  simp only [pu', p0', c1', c0', i1', z0', b8_nat]
  refine sidxE ?_
  simp only [pu', p0', c1', c0', i1', z0', b8_nat]
  refine sloadE ?_
  simp only [pu', p0', c1', c0', i1', z0', b8_nat]
  refine smove ?_
  simp only [pu', p0', c1', c0', i1', z0', b8_nat]
  refine sM (hx := rfl) (cb _ hS) ?_
  simp only [pu', p0', c1', c0', i1', z0', b8_nat]
  refine smove ?_
  simp only [pu', p0', c1', c0', i1', z0', b8_nat]
  refine sext ?_
  simp only [pu', p0', c1', c0', i1', z0', b8_nat]
  refine sext ?_
  simp only [pu', p0', c1', c0', i1', z0', b8_nat]
  refine sassign ?_
  simp only [pu', p0', c1', c0', i1', z0', b8_nat]
  refine sassign ?_
  simp only [pu', p0', c1', c0', i1', z0', b8_nat]
  with_reducible refine s_end ?_
  with_reducible refine s_then ?_
  with_reducible refine s_seq ?_
  with_reducible refine s_reg ?_
  refine smove ?_
  simp only [pu', p0', c1', c0', i1', z0', b8_nat]
  refine smove ?_
  simp only [pu', p0', c1', c0', i1', z0', b8_nat]
  refine sidxE ?_
  simp only [pu', p0', c1', c0', i1', z0', b8_nat]
  refine sloadE ?_
  simp only [pu', p0', c1', c0', i1', z0', b8_nat]
  refine smove ?_
  simp only [pu', p0', c1', c0', i1', z0', b8_nat]
  refine smove ?_
  simp only [pu', p0', c1', c0', i1', z0', b8_nat]
  refine sC (hx := rfl) ((cp _ hS).mono ?_)
  rintro _ _ _ ⟨s1, rfl, hR1⟩
  obtain ⟨o1, rfl, hE1⟩ := hR1.shapeE encT_ok
  have el1 := fun r => mkEL encT_ok tk0 (hE1 r)
  simp only [pu', p0', c1', c0', i1', n0', n3', n1', n2', a2', a1', a0', n4', Nat.reduceAdd, z0', n5', sa0, sa1, sa2, sa3, sa4, sa5, sa6, sa7, sa8, sa9, sa10, sa11]
  refine smove ?_
  simp only [pu', p0', c1', c0', i1', z0', b8_nat]
  refine sext ?_
  simp only [pu', p0', c1', c0', i1', z0', b8_nat]
  refine sext ?_
  simp only [pu', p0', c1', c0', i1', z0', b8_nat]
  refine sext ?_
  simp only [pu', p0', c1', c0', i1', z0', b8_nat]
  refine sext ?_
  simp only [pu', p0', c1', c0', i1', z0', b8_nat]
  refine salloc ?_
  simp only [pu', p0', c1', c0', i1', n0', n3', n1', n2', a2', a1', a0', n4', Nat.reduceAdd, z0', n5', sa0, sa1, sa2, sa3, sa4, sa5, sa6, sa7, sa8, sa9, sa10, sa11]
  refine sstoreF ?_
  simp only [pu', p0', c1', c0', i1', n0', n3', n1', n2', a2', a1', a0', n4', Nat.reduceAdd, z0', n5', sa0, sa1, sa2, sa3, sa4, sa5, sa6, sa7, sa8, sa9, sa10, sa11]
  refine sassign ?_
  simp only [pu', p0', c1', c0', i1', z0', b8_nat]
  refine sassign ?_
  simp only [pu', p0', c1', c0', i1', z0', b8_nat]
  refine sassign ?_
  simp only [pu', p0', c1', c0', i1', z0', b8_nat]
  with_reducible refine s_end ?_
  with_reducible refine s_then ?_
  with_reducible refine s_seq ?_
  with_reducible refine s_seq ?_
  refine s_cut (fun (b : Unit) s' => [s' 0, sb, s' 2, s' 3, s' 4, B true, sl, s' 7, s' 8, s' 9, sw, s' 11, I i, s' 13, I a, s' 15, s' 16, s' 17, .ptr (H.length + 1) 0, s1, I p.w, s' 21, s' 22, s' 23, s' 24, s' 25, s' 26, s' 27, s' 28, s' 29, s' 30, s' 31, s' 32, s' 33, s' 34, s' 35, s' 36, s' 37, s' 38, s' 39, s' 40, s' 41, s' 42, s' 43, s' 44, s' 45, s' 46, s' 47, s' 48, s' 49, s' 50, s' 51, s' 52, s' 53, s' 54, s' 55, s' 56, s' 57, s' 58, s' 59, s' 60, s' 61, s' 62, s' 63, s' 64, s' 65, s' 66, s' 67, s' 68, s' 69, s' 70, s' 71, s' 72, s' 73, s' 74, s' 75, s' 76, s' 77, s' 78, s' 79, s' 80, s' 81, s' 82, s' 83, s' 84, s' 85, s' 86, s' 87, s' 88, s' 89, s' 90, s' 91, s' 92, s' 93, s' 94, s' 95, s' 96, s' 97, s' 98, s' 99, s' 100, s' 101, s' 102, s' 103, s' 104, s' 105, s' 106, s' 107, s' 108, s' 109, s' 110, s' 111, s' 112, s' 113, s' 114, s' 115, s' 116, s' 117, s' 118, s' 119, s' 120, s' 121, s' 122, s' 123, s' 124, s' 125, s' 126, s' 127, s' 128, s' 129, s' 130, s' 131, s' 132, s' 133, s' 134, s' 135, B false, s' 137, s' 138, s' 139, s' 140, s' 141, s' 142, s' 143, s' 144, s' 145, s' 146, s' 147, s' 148, s' 149, s' 150, s' 151, s' 152, s' 153, s' 154, s' 155, s' 156, s' 157, s' 158, s' 159, s' 160, s' 161, s' 162, s' 163, s' 164, s' 165, s' 166, s' 167, s' 168, s' 169, s' 170, s' 171, s' 172, s' 173, s' 174, s' 175, s' 176, s' 177, s' 178, s' 179, s' 180, s' 181, s' 182, s' 183, s' 184, s' 185, s' 186, s' 187, s' 188, s' 189, s' 190, s' 191, s' 192, s' 193, s' 194, s' 195, s' 196, s' 197, s' 198, s' 199, s' 200, s' 201, s' 202, s' 203, s' 204, s' 205, s' 206, s' 207, s' 208, s' 209, s' 210, s' 211, s' 212, s' 213, s' 214, s' 215, s' 216, s' 217, s' 218, s' 219, s' 220, s' 221, s' 222, s' 223, s' 224, s' 225, s' 226, s' 227, s' 228, s' 229, s' 230, s' 231, s' 232, s' 233, s' 234, s' 235, s' 236, s' 237]) (fun _ => H ++ [o1, .cells [I p.j, I p.d] 30 true]) (fun _ => True) ?_ ?_
  · rcases hcs with ⟨q1, q2⟩ | ⟨q1, q2, q3⟩ | ⟨q1, q2, q3, q4⟩
    · subst q2
      cases fb
      all_goals
        focus
          first
            | with_reducible refine s_reg ?_
              refine smove ?_
              simp only [pu', p0', c1', c0', i1', z0', b8_nat]
              refine sNe (fun hb => ?_) (fun hb => ?_)
              replace hb := dT' hb
              (exfalso; omega)
              replace hb := dF' hb
              simp only [pu', p0', c1', c0', i1', z0', b8_nat]
              refine smove ?_
              simp only [pu', p0', c1', c0', i1', z0', b8_nat]
              refine smove ?_
              simp only [pu', p0', c1', c0', i1', z0', b8_nat]
              refine sNe (fun hb => ?_) (fun hb => ?_)
              replace hb := dT' hb
              (exfalso; omega)
              replace hb := dF' hb
              simp only [pu', p0', c1', c0', i1', z0', b8_nat]
              refine spickF ?_
              simp only [pu', p0', c1', c0', i1', z0', b8_nat]
              refine smove ?_
              simp only [pu', p0', c1', c0', i1', z0', b8_nat]
              refine smove ?_
              simp only [pu', p0', c1', c0', i1', z0', b8_nat]
              refine slenE ?_
              simp only [pu', p0', c1', c0', i1', z0', b8_nat]
              refine smove ?_
              simp only [pu', p0', c1', c0', i1', z0', b8_nat]
              refine slenE ?_
              simp only [pu', p0', c1', c0', i1', z0', b8_nat]
              refine sNe (fun hb => ?_) (fun hb => ?_)
              replace hb := dT' hb
              (exfalso; omega)
              replace hb := dF' hb
              simp only [pu', p0', c1', c0', i1', z0', b8_nat]
              refine spickF ?_
              simp only [pu', p0', c1', c0', i1', z0', b8_nat]
              refine smove ?_
              simp only [pu', p0', c1', c0', i1', z0', b8_nat]
              refine smove ?_
              simp only [pu', p0', c1', c0', i1', z0', b8_nat]
              refine smove ?_
              simp only [pu', p0', c1', c0', i1', z0', b8_nat]
              refine sEq (fun hb => ?_) (fun hb => ?_)
              replace hb := dT' hb
              simp only [pu', p0', c1', c0', i1', z0', b8_nat]
              refine seqB (fun hb => ?_) (fun hb => ?_)
              simp only [decide_eq_true_eq, Int.toNat_natCast, decide_eq_false_iff_not, Bool.not_eq_true', Bool.not_eq_false', not_true_eq_false, not_false_eq_true, beq_self_eq_true, Bool.and_true, Bool.true_and, Bool.and_false, Bool.false_and, Bool.and_eq_true, Bool.and_eq_false_iff, beq_iff_eq, beq_eq_false_iff_ne, ne_eq, Bool.not_true, Bool.not_false, Bool.true_eq_false, Bool.false_eq_true, Bool.not_eq_true, Bool.not_eq_false, and_true, true_and, and_false, false_and, or_false, false_or, or_true, true_or] at hb
              simp only [decide_eq_true_eq, Int.toNat_natCast, decide_eq_false_iff_not, Bool.not_eq_true', Bool.not_eq_false', not_true_eq_false, not_false_eq_true, beq_self_eq_true, Bool.and_true, Bool.true_and, Bool.and_false, Bool.false_and, Bool.and_eq_true, Bool.and_eq_false_iff, beq_iff_eq, beq_eq_false_iff_ne, ne_eq, Bool.not_true, Bool.not_false, Bool.true_eq_false, Bool.false_eq_true, Bool.not_eq_true, Bool.not_eq_false, and_true, true_and, and_false, false_and, or_false, false_or, or_true, true_or] at hb
              simp only [pu', p0', c1', c0', i1', z0', b8_nat]
              refine spickF ?_
              simp only [pu', p0', c1', c0', i1', z0', b8_nat]
              refine smove ?_
              simp only [pu', p0', c1', c0', i1', z0', b8_nat]
              refine smove ?_
              simp only [pu', p0', c1', c0', i1', z0', b8_nat]
              refine sEq (fun hb => ?_) (fun hb => ?_)
              replace hb := dT' hb
              (exfalso; omega)
              replace hb := dF' hb
              simp only [pu', p0', c1', c0', i1', z0', b8_nat]
              refine smove ?_
              simp only [pu', p0', c1', c0', i1', z0', b8_nat]
              refine smove ?_
              simp only [pu', p0', c1', c0', i1', z0', b8_nat]
              refine sN ?_
              simp only [pu', p0', c1', c0', i1', z0', b8_nat]
              refine spickF ?_
              simp only [pu', p0', c1', c0', i1', z0', b8_nat]
              refine sneB (fun hb => ?_) (fun hb => ?_)
              simp only [decide_eq_true_eq, Int.toNat_natCast, decide_eq_false_iff_not, Bool.not_eq_true', Bool.not_eq_false', not_true_eq_false, not_false_eq_true, beq_self_eq_true, Bool.and_true, Bool.true_and, Bool.and_false, Bool.false_and, Bool.and_eq_true, Bool.and_eq_false_iff, beq_iff_eq, beq_eq_false_iff_ne, ne_eq, Bool.not_true, Bool.not_false, Bool.true_eq_false, Bool.false_eq_true, Bool.not_eq_true, Bool.not_eq_false, and_true, true_and, and_false, false_and, or_false, false_or, or_true, true_or] at hb
              simp only [decide_eq_true_eq, Int.toNat_natCast, decide_eq_false_iff_not, Bool.not_eq_true', Bool.not_eq_false', not_true_eq_false, not_false_eq_true, beq_self_eq_true, Bool.and_true, Bool.true_and, Bool.and_false, Bool.false_and, Bool.and_eq_true, Bool.and_eq_false_iff, beq_iff_eq, beq_eq_false_iff_ne, ne_eq, Bool.not_true, Bool.not_false, Bool.true_eq_false, Bool.false_eq_true, Bool.not_eq_true, Bool.not_eq_false, and_true, true_and, and_false, false_and, or_false, false_or, or_true, true_or] at hb
              simp only [pu', p0', c1', c0', i1', z0', b8_nat]
              refine spickF ?_
              simp only [pu', p0', c1', c0', i1', z0', b8_nat]
              with_reducible refine s_end ?_
              with_reducible refine s_then ?_
              rotate_left 1
              replace hb := dF' hb
              exact absurd (by with_reducible assumption) hb
            | with_reducible refine s_reg ?_
              refine smove ?_
              simp only [pu', p0', c1', c0', i1', z0', b8_nat]
              refine sNe (fun hb => ?_) (fun hb => ?_)
              replace hb := dT' hb
              (exfalso; omega)
              replace hb := dF' hb
              simp only [pu', p0', c1', c0', i1', z0', b8_nat]
              refine smove ?_
              simp only [pu', p0', c1', c0', i1', z0', b8_nat]
              refine smove ?_
              simp only [pu', p0', c1', c0', i1', z0', b8_nat]
              refine sNe (fun hb => ?_) (fun hb => ?_)
              replace hb := dT' hb
              (exfalso; omega)
              replace hb := dF' hb
              simp only [pu', p0', c1', c0', i1', z0', b8_nat]
              refine spickF ?_
              simp only [pu', p0', c1', c0', i1', z0', b8_nat]
              refine smove ?_
              simp only [pu', p0', c1', c0', i1', z0', b8_nat]
              refine smove ?_
              simp only [pu', p0', c1', c0', i1', z0', b8_nat]
              refine slenE ?_
              simp only [pu', p0', c1', c0', i1', z0', b8_nat]
              refine smove ?_
              simp only [pu', p0', c1', c0', i1', z0', b8_nat]
              refine slenE ?_
              simp only [pu', p0', c1', c0', i1', z0', b8_nat]
              refine sNe (fun hb => ?_) (fun hb => ?_)
              replace hb := dT' hb
              (exfalso; omega)
              replace hb := dF' hb
              simp only [pu', p0', c1', c0', i1', z0', b8_nat]
              refine spickF ?_
              simp only [pu', p0', c1', c0', i1', z0', b8_nat]
              refine smove ?_
              simp only [pu', p0', c1', c0', i1', z0', b8_nat]
              refine smove ?_
              simp only [pu', p0', c1', c0', i1', z0', b8_nat]
              refine smove ?_
              simp only [pu', p0', c1', c0', i1', z0', b8_nat]
              refine sEq (fun hb => ?_) (fun hb => ?_)
              replace hb := dT' hb
              simp only [pu', p0', c1', c0', i1', z0', b8_nat]
              refine seqB (fun hb => ?_) (fun hb => ?_)
              simp only [decide_eq_true_eq, Int.toNat_natCast, decide_eq_false_iff_not, Bool.not_eq_true', Bool.not_eq_false', not_true_eq_false, not_false_eq_true, beq_self_eq_true, Bool.and_true, Bool.true_and, Bool.and_false, Bool.false_and, Bool.and_eq_true, Bool.and_eq_false_iff, beq_iff_eq, beq_eq_false_iff_ne, ne_eq, Bool.not_true, Bool.not_false, Bool.true_eq_false, Bool.false_eq_true, Bool.not_eq_true, Bool.not_eq_false, and_true, true_and, and_false, false_and, or_false, false_or, or_true, true_or] at hb
              simp only [decide_eq_true_eq, Int.toNat_natCast, decide_eq_false_iff_not, Bool.not_eq_true', Bool.not_eq_false', not_true_eq_false, not_false_eq_true, beq_self_eq_true, Bool.and_true, Bool.true_and, Bool.and_false, Bool.false_and, Bool.and_eq_true, Bool.and_eq_false_iff, beq_iff_eq, beq_eq_false_iff_ne, ne_eq, Bool.not_true, Bool.not_false, Bool.true_eq_false, Bool.false_eq_true, Bool.not_eq_true, Bool.not_eq_false, and_true, true_and, and_false, false_and, or_false, false_or, or_true, true_or] at hb
              simp only [pu', p0', c1', c0', i1', z0', b8_nat]
              refine spickF ?_
              simp only [pu', p0', c1', c0', i1', z0', b8_nat]
              refine smove ?_
              simp only [pu', p0', c1', c0', i1', z0', b8_nat]
              refine smove ?_
              simp only [pu', p0', c1', c0', i1', z0', b8_nat]
              refine sEq (fun hb => ?_) (fun hb => ?_)
              replace hb := dT' hb
              (exfalso; omega)
              replace hb := dF' hb
              simp only [pu', p0', c1', c0', i1', z0', b8_nat]
              refine smove ?_
              simp only [pu', p0', c1', c0', i1', z0', b8_nat]
              refine smove ?_
              simp only [pu', p0', c1', c0', i1', z0', b8_nat]
              refine smove ?_
              simp only [pu', p0', c1', c0', i1', z0', b8_nat]
              refine spickT ?_
              simp only [pu', p0', c1', c0', i1', z0', b8_nat]
              refine sneB (fun hb => ?_) (fun hb => ?_)
              simp only [decide_eq_true_eq, Int.toNat_natCast, decide_eq_false_iff_not, Bool.not_eq_true', Bool.not_eq_false', not_true_eq_false, not_false_eq_true, beq_self_eq_true, Bool.and_true, Bool.true_and, Bool.and_false, Bool.false_and, Bool.and_eq_true, Bool.and_eq_false_iff, beq_iff_eq, beq_eq_false_iff_ne, ne_eq, Bool.not_true, Bool.not_false, Bool.true_eq_false, Bool.false_eq_true, Bool.not_eq_true, Bool.not_eq_false, and_true, true_and, and_false, false_and, or_false, false_or, or_true, true_or] at hb
              simp only [decide_eq_true_eq, Int.toNat_natCast, decide_eq_false_iff_not, Bool.not_eq_true', Bool.not_eq_false', not_true_eq_false, not_false_eq_true, beq_self_eq_true, Bool.and_true, Bool.true_and, Bool.and_false, Bool.false_and, Bool.and_eq_true, Bool.and_eq_false_iff, beq_iff_eq, beq_eq_false_iff_ne, ne_eq, Bool.not_true, Bool.not_false, Bool.true_eq_false, Bool.false_eq_true, Bool.not_eq_true, Bool.not_eq_false, and_true, true_and, and_false, false_and, or_false, false_or, or_true, true_or] at hb
              simp only [pu', p0', c1', c0', i1', z0', b8_nat]
              refine spickF ?_
              simp only [pu', p0', c1', c0', i1', z0', b8_nat]
              with_reducible refine s_end ?_
              with_reducible refine s_then ?_
              rotate_left 1
              replace hb := dF' hb
              exact absurd (by with_reducible assumption) hb
        all_goals exact at_in () trivial (by rfl) (by rfl)
    · subst q2 q3
      focus
        with_reducible refine s_reg ?_
        refine smove ?_
        simp only [pu', p0', c1', c0', i1', z0', b8_nat]
        refine sNe (fun hb => ?_) (fun hb => ?_)
        replace hb := dT' hb
        (exfalso; omega)
        replace hb := dF' hb
        simp only [pu', p0', c1', c0', i1', z0', b8_nat]
        refine smove ?_
        simp only [pu', p0', c1', c0', i1', z0', b8_nat]
        refine smove ?_
        simp only [pu', p0', c1', c0', i1', z0', b8_nat]
        refine sNe (fun hb => ?_) (fun hb => ?_)
        replace hb := dT' hb
        (exfalso; omega)
        replace hb := dF' hb
        simp only [pu', p0', c1', c0', i1', z0', b8_nat]
        refine spickF ?_
        simp only [pu', p0', c1', c0', i1', z0', b8_nat]
        refine smove ?_
        simp only [pu', p0', c1', c0', i1', z0', b8_nat]
        refine smove ?_
        simp only [pu', p0', c1', c0', i1', z0', b8_nat]
        refine slenE ?_
        simp only [pu', p0', c1', c0', i1', z0', b8_nat]
        refine smove ?_
        simp only [pu', p0', c1', c0', i1', z0', b8_nat]
        refine slenE ?_
        simp only [pu', p0', c1', c0', i1', z0', b8_nat]
        refine sNe (fun hb => ?_) (fun hb => ?_)
        replace hb := dT' hb
        (exfalso; omega)
        replace hb := dF' hb
        simp only [pu', p0', c1', c0', i1', z0', b8_nat]
        refine spickF ?_
        simp only [pu', p0', c1', c0', i1', z0', b8_nat]
        refine smove ?_
        simp only [pu', p0', c1', c0', i1', z0', b8_nat]
        refine smove ?_
        simp only [pu', p0', c1', c0', i1', z0', b8_nat]
        refine smove ?_
        simp only [pu', p0', c1', c0', i1', z0', b8_nat]
        refine sEq (fun hb => ?_) (fun hb => ?_)
        replace hb := dT' hb
        (exfalso; omega)
        replace hb := dF' hb
        simp only [pu', p0', c1', c0', i1', z0', b8_nat]
        refine seqB (fun hb => ?_) (fun hb => ?_)
        simp only [decide_eq_true_eq, Int.toNat_natCast, decide_eq_false_iff_not, Bool.not_eq_true', Bool.not_eq_false', not_true_eq_false, not_false_eq_true, beq_self_eq_true, Bool.and_true, Bool.true_and, Bool.and_false, Bool.false_and, Bool.and_eq_true, Bool.and_eq_false_iff, beq_iff_eq, beq_eq_false_iff_ne, ne_eq, Bool.not_true, Bool.not_false, Bool.true_eq_false, Bool.false_eq_true, Bool.not_eq_true, Bool.not_eq_false, and_true, true_and, and_false, false_and, or_false, false_or, or_true, true_or] at hb
        simp only [decide_eq_true_eq, Int.toNat_natCast, decide_eq_false_iff_not, Bool.not_eq_true', Bool.not_eq_false', not_true_eq_false, not_false_eq_true, beq_self_eq_true, Bool.and_true, Bool.true_and, Bool.and_false, Bool.false_and, Bool.and_eq_true, Bool.and_eq_false_iff, beq_iff_eq, beq_eq_false_iff_ne, ne_eq, Bool.not_true, Bool.not_false, Bool.true_eq_false, Bool.false_eq_true, Bool.not_eq_true, Bool.not_eq_false, and_true, true_and, and_false, false_and, or_false, false_or, or_true, true_or] at hb
        simp only [pu', p0', c1', c0', i1', z0', b8_nat]
        refine spickF ?_
        simp only [pu', p0', c1', c0', i1', z0', b8_nat]
        refine smove ?_
        simp only [pu', p0', c1', c0', i1', z0', b8_nat]
        refine smove ?_
        simp only [pu', p0', c1', c0', i1', z0', b8_nat]
        refine sEq (fun hb => ?_) (fun hb => ?_)
        replace hb := dT' hb
        simp only [pu', p0', c1', c0', i1', z0', b8_nat]
        refine smove ?_
        simp only [pu', p0', c1', c0', i1', z0', b8_nat]
        refine smove ?_
        simp only [pu', p0', c1', c0', i1', z0', b8_nat]
        refine smove ?_
        simp only [pu', p0', c1', c0', i1', z0', b8_nat]
        refine spickT ?_
        simp only [pu', p0', c1', c0', i1', z0', b8_nat]
        refine sneB (fun hb => ?_) (fun hb => ?_)
        simp only [decide_eq_true_eq, Int.toNat_natCast, decide_eq_false_iff_not, Bool.not_eq_true', Bool.not_eq_false', not_true_eq_false, not_false_eq_true, beq_self_eq_true, Bool.and_true, Bool.true_and, Bool.and_false, Bool.false_and, Bool.and_eq_true, Bool.and_eq_false_iff, beq_iff_eq, beq_eq_false_iff_ne, ne_eq, Bool.not_true, Bool.not_false, Bool.true_eq_false, Bool.false_eq_true, Bool.not_eq_true, Bool.not_eq_false, and_true, true_and, and_false, false_and, or_false, false_or, or_true, true_or] at hb
        simp only [decide_eq_true_eq, Int.toNat_natCast, decide_eq_false_iff_not, Bool.not_eq_true', Bool.not_eq_false', not_true_eq_false, not_false_eq_true, beq_self_eq_true, Bool.and_true, Bool.true_and, Bool.and_false, Bool.false_and, Bool.and_eq_true, Bool.and_eq_false_iff, beq_iff_eq, beq_eq_false_iff_ne, ne_eq, Bool.not_true, Bool.not_false, Bool.true_eq_false, Bool.false_eq_true, Bool.not_eq_true, Bool.not_eq_false, and_true, true_and, and_false, false_and, or_false, false_or, or_true, true_or] at hb
        simp only [pu', p0', c1', c0', i1', z0', b8_nat]
        refine spickF ?_
        simp only [pu', p0', c1', c0', i1', z0', b8_nat]
        with_reducible refine s_end ?_
        with_reducible refine s_then ?_
        rotate_left 1
        replace hb := dF' hb
        exact absurd (by with_reducible assumption) hb
      all_goals exact at_in () trivial (by rfl) (by rfl)
    · subst q3 q4
      with_reducible refine s_reg ?_
      refine smove ?_
      simp only [pu', p0', c1', c0', i1', z0', b8_nat]
      refine sNe (fun hb => ?_) (fun hb => ?_)
      replace hb := dT' hb
      (exfalso; omega)
      replace hb := dF' hb
      simp only [pu', p0', c1', c0', i1', z0', b8_nat]
      refine smove ?_
      simp only [pu', p0', c1', c0', i1', z0', b8_nat]
      refine smove ?_
      simp only [pu', p0', c1', c0', i1', z0', b8_nat]
      refine sNe (fun hb => ?_) (fun hb => ?_)
      replace hb := dT' hb
      (exfalso; omega)
      replace hb := dF' hb
      simp only [pu', p0', c1', c0', i1', z0', b8_nat]
      refine spickF ?_
      simp only [pu', p0', c1', c0', i1', z0', b8_nat]
      refine smove ?_
      simp only [pu', p0', c1', c0', i1', z0', b8_nat]
      refine smove ?_
      simp only [pu', p0', c1', c0', i1', z0', b8_nat]
      refine slenE ?_
      simp only [pu', p0', c1', c0', i1', z0', b8_nat]
      refine smove ?_
      simp only [pu', p0', c1', c0', i1', z0', b8_nat]
      refine slenE ?_
      simp only [pu', p0', c1', c0', i1', z0', b8_nat]
      refine sNe (fun hb => ?_) (fun hb => ?_)
      replace hb := dT' hb
      (exfalso; omega)
      replace hb := dF' hb
      simp only [pu', p0', c1', c0', i1', z0', b8_nat]
      refine spickF ?_
      simp only [pu', p0', c1', c0', i1', z0', b8_nat]
      refine smove ?_
      simp only [pu', p0', c1', c0', i1', z0', b8_nat]
      refine smove ?_
      simp only [pu', p0', c1', c0', i1', z0', b8_nat]
      refine smove ?_
      simp only [pu', p0', c1', c0', i1', z0', b8_nat]
      refine sEq (fun hb => ?_) (fun hb => ?_)
      replace hb := dT' hb
      (exfalso; omega)
      replace hb := dF' hb
      simp only [pu', p0', c1', c0', i1', z0', b8_nat]
      refine seqB (fun hb => ?_) (fun hb => ?_)
      simp only [decide_eq_true_eq, Int.toNat_natCast, decide_eq_false_iff_not, Bool.not_eq_true', Bool.not_eq_false', not_true_eq_false, not_false_eq_true, beq_self_eq_true, Bool.and_true, Bool.true_and, Bool.and_false, Bool.false_and, Bool.and_eq_true, Bool.and_eq_false_iff, beq_iff_eq, beq_eq_false_iff_ne, ne_eq, Bool.not_true, Bool.not_false, Bool.true_eq_false, Bool.false_eq_true, Bool.not_eq_true, Bool.not_eq_false, and_true, true_and, and_false, false_and, or_false, false_or, or_true, true_or] at hb
      simp only [decide_eq_true_eq, Int.toNat_natCast, decide_eq_false_iff_not, Bool.not_eq_true', Bool.not_eq_false', not_true_eq_false, not_false_eq_true, beq_self_eq_true, Bool.and_true, Bool.true_and, Bool.and_false, Bool.false_and, Bool.and_eq_true, Bool.and_eq_false_iff, beq_iff_eq, beq_eq_false_iff_ne, ne_eq, Bool.not_true, Bool.not_false, Bool.true_eq_false, Bool.false_eq_true, Bool.not_eq_true, Bool.not_eq_false, and_true, true_and, and_false, false_and, or_false, false_or, or_true, true_or] at hb
      simp only [pu', p0', c1', c0', i1', z0', b8_nat]
      refine spickF ?_
      simp only [pu', p0', c1', c0', i1', z0', b8_nat]
      refine smove ?_
      simp only [pu', p0', c1', c0', i1', z0', b8_nat]
      refine smove ?_
      simp only [pu', p0', c1', c0', i1', z0', b8_nat]
      refine sEq (fun hb => ?_) (fun hb => ?_)
      replace hb := dT' hb
      (exfalso; omega)
      replace hb := dF' hb
      simp only [pu', p0', c1', c0', i1', z0', b8_nat]
      refine smove ?_
      simp only [pu', p0', c1', c0', i1', z0', b8_nat]
      refine smove ?_
      simp only [pu', p0', c1', c0', i1', z0', b8_nat]
      refine sN ?_
      simp only [pu', p0', c1', c0', i1', z0', b8_nat]
      refine spickF ?_
      simp only [pu', p0', c1', c0', i1', z0', b8_nat]
      refine sneB (fun hb => ?_) (fun hb => ?_)
      simp only [decide_eq_true_eq, Int.toNat_natCast, decide_eq_false_iff_not, Bool.not_eq_true', Bool.not_eq_false', not_true_eq_false, not_false_eq_true, beq_self_eq_true, Bool.and_true, Bool.true_and, Bool.and_false, Bool.false_and, Bool.and_eq_true, Bool.and_eq_false_iff, beq_iff_eq, beq_eq_false_iff_ne, ne_eq, Bool.not_true, Bool.not_false, Bool.true_eq_false, Bool.false_eq_true, Bool.not_eq_true, Bool.not_eq_false, and_true, true_and, and_false, false_and, or_false, false_or, or_true, true_or] at hb
      simp only [decide_eq_true_eq, Int.toNat_natCast, decide_eq_false_iff_not, Bool.not_eq_true', Bool.not_eq_false', not_true_eq_false, not_false_eq_true, beq_self_eq_true, Bool.and_true, Bool.true_and, Bool.and_false, Bool.false_and, Bool.and_eq_true, Bool.and_eq_false_iff, beq_iff_eq, beq_eq_false_iff_ne, ne_eq, Bool.not_true, Bool.not_false, Bool.true_eq_false, Bool.false_eq_true, Bool.not_eq_true, Bool.not_eq_false, and_true, true_and, and_false, false_and, or_false, false_or, or_true, true_or] at hb
      simp only [pu', p0', c1', c0', i1', z0', b8_nat]
      refine spickF ?_
      simp only [pu', p0', c1', c0', i1', z0', b8_nat]
      with_reducible refine s_end ?_
      with_reducible refine s_then ?_
      all_goals exact at_in () trivial (by rfl) (by rfl)
  intro _ s' _
  obtain ⟨n0, hch, hov⟩ := ps.ch
  refine sCF ?_
  with_reducible refine s_skip ?_
  with_reducible refine s_then ?_
  with_reducible refine s_seq ?_
  with_reducible refine s_reg ?_
  refine sassign ?_
  simp only [pu', p0', c1', c0', i1', z0', b8_nat]
  with_reducible refine s_end ?_
  with_reducible refine s_then ?_
  with_reducible refine s_seq ?_
  with_reducible refine s_seq ?_
  with_reducible refine s_reg ?_
  refine sassign ?_
  simp only [pu', p0', c1', c0', i1', z0', b8_nat]
  with_reducible refine s_end ?_
  with_reducible refine s_then ?_
  with_reducible refine s_block ?_
  refine s_loop hm (fun (b : Nat × Nat) s' => [s' 0, sb, s' 2, s' 3, s' 4, B true, sl, s' 7, s' 8, s' 9, sw, s' 11, I i, s' 13, I a, s' 15, s' 16, s' 17, .ptr (H.length + 1) 0, s1, I p.w, s' 21, I b.1, I b.2, s' 24, s' 25, s' 26, s' 27, s' 28, s' 29, s' 30, s' 31, s' 32, s' 33, s' 34, s' 35, s' 36, s' 37, s' 38, s' 39, s' 40, s' 41, s' 42, s' 43, s' 44, s' 45, s' 46, s' 47, s' 48, s' 49, s' 50, s' 51, s' 52, s' 53, s' 54, s' 55, s' 56, s' 57, s' 58, s' 59, s' 60, s' 61, s' 62, s' 63, s' 64, s' 65, s' 66, s' 67, s' 68, s' 69, s' 70, s' 71, s' 72, s' 73, s' 74, s' 75, s' 76, s' 77, s' 78, s' 79, s' 80, s' 81, s' 82, s' 83, s' 84, s' 85, s' 86, s' 87, s' 88, s' 89, s' 90, s' 91, s' 92, s' 93, s' 94, s' 95, s' 96, s' 97, s' 98, s' 99, s' 100, s' 101, s' 102, s' 103, s' 104, s' 105, s' 106, s' 107, s' 108, s' 109, s' 110, s' 111, s' 112, s' 113, s' 114, s' 115, s' 116, s' 117, s' 118, s' 119, s' 120, s' 121, s' 122, s' 123, s' 124, s' 125, s' 126, s' 127, s' 128, s' 129, s' 130, s' 131, s' 132, s' 133, s' 134, s' 135, s' 136, s' 137, s' 138, s' 139, s' 140, s' 141, s' 142, s' 143, s' 144, s' 145, s' 146, s' 147, s' 148, s' 149, s' 150, s' 151, s' 152, s' 153, s' 154, s' 155, s' 156, s' 157, s' 158, s' 159, s' 160, s' 161, s' 162, s' 163, s' 164, s' 165, s' 166, s' 167, s' 168, s' 169, s' 170, s' 171, s' 172, s' 173, s' 174, s' 175, s' 176, s' 177, s' 178, s' 179, s' 180, s' 181, s' 182, s' 183, s' 184, s' 185, s' 186, s' 187, s' 188, s' 189, s' 190, s' 191, s' 192, s' 193, s' 194, s' 195, s' 196, s' 197, s' 198, s' 199, s' 200, s' 201, s' 202, s' 203, s' 204, s' 205, s' 206, s' 207, s' 208, s' 209, s' 210, s' 211, s' 212, s' 213, s' 214, s' 215, s' 216, s' 217, s' 218, s' 219, s' 220, s' 221, s' 222, s' 223, s' 224, s' 225, s' 226, s' 227, s' 228, s' 229, s' 230, s' 231, s' 232, s' 233, s' 234, s' 235, s' 236, s' 237]) (fun _ => H ++ [o1, .cells [I p.j, I p.d] 30 true]) (fun b => b.2 ≤ l.length ∧ (b.1 = 0 ∨ (b.1 = 1 ∧ n0 < b.2))) (fun b => l.length - b.2) (0, 0) (by rfl) rfl ⟨by simp, .inl rfl⟩ ?_
  rintro ⟨c, j⟩ s' ⟨hj1, hj2⟩
  simp only [] at hj1 hj2 ⊢
  have el5 := mkEL encT_ok tk0 hS
  focus
    with_reducible refine s_seq ?_
    with_reducible refine s_seq ?_
    with_reducible refine s_reg ?_
    refine smove ?_
    simp only [pu', p0', c1', c0', i1', z0', b8_nat]
    refine smove ?_
    simp only [pu', p0', c1', c0', i1', z0', b8_nat]
    refine slenE ?_
    simp only [pu', p0', c1', c0', i1', z0', b8_nat]
    refine sLt (fun hb => ?_) (fun hb => ?_)
    replace hb := dT' hb
    simp only [pu', p0', c1', c0', i1', z0', b8_nat]
    with_reducible refine s_end ?_
    with_reducible refine s_then ?_
    refine sCT ?_
    with_reducible refine s_skip ?_
    with_reducible refine s_then ?_
    with_reducible refine s_seq ?_
    with_reducible refine s_block ?_
    with_reducible refine s_seq ?_
    with_reducible refine s_seq ?_
    (refine s_regQ (id := 28) [(0, true), (1, true), (2, true), (3, true), (4, true), (5, true), (6, true), (7, true), (8, true)] (by kernel_rfl) (by conv => lhs; simp only [pickO, List.getElem?_cons_succ, List.getElem?_cons_zero]) ?_)
    refine qmove ?_
    simp only [pu', p0', c1', c0', i1', z0', b8_nat]
    refine qmove ?_
    simp only [pu', p0', c1', c0', i1', z0', b8_nat]
    refine qidxE ?_
    simp only [pu', p0', c1', c0', i1', z0', b8_nat]
    refine qloadE ?_
    simp only [pu', p0', c1', c0', i1', z0', b8_nat]
    refine qmove ?_
    simp only [pu', p0', c1', c0', i1', z0', b8_nat]
    refine qmove ?_
    simp only [pu', p0', c1', c0', i1', z0', b8_nat]
    refine qidxE ?_
    simp only [pu', p0', c1', c0', i1', z0', b8_nat]
    refine qloadE ?_
    simp only [pu', p0', c1', c0', i1', z0', b8_nat]
    refine qbn (fun hb => ?_) (fun hb => ?_)
    simp only [decide_eq_true_eq, Int.toNat_natCast, decide_eq_false_iff_not, Bool.not_eq_true', Bool.not_eq_false', not_true_eq_false, not_false_eq_true, beq_self_eq_true, Bool.and_true, Bool.true_and, Bool.and_false, Bool.false_and, Bool.and_eq_true, Bool.and_eq_false_iff, beq_iff_eq, beq_eq_false_iff_ne, ne_eq, Bool.not_true, Bool.not_false, Bool.true_eq_false, Bool.false_eq_true, Bool.not_eq_true, Bool.not_eq_false, and_true, true_and, and_false, false_and, or_false, false_or, or_true, true_or] at hb
    simp only [pu', p0', c1', c0', i1', z0', b8_nat]
    with_reducible refine q_end ?_
    with_reducible refine s_then ?_
    refine sCT ?_
    with_reducible refine s_exit ?_
    with_reducible refine s_thenE ?_
    with_reducible refine s_blkE ?_
    with_reducible refine s_then ?_
    with_reducible refine s_reg ?_
    refine smove ?_
    simp only [pu', p0', c1', c0', i1', z0', b8_nat]
    refine sadd ?_
    simp only [pu', p0', c1', c0', i1', z0', b8_nat]
    refine sassign ?_
    simp only [pu', p0', c1', c0', i1', z0', b8_nat]
    with_reducible refine s_end ?_
    rotate_left 1
    simp only [decide_eq_true_eq, Int.toNat_natCast, decide_eq_false_iff_not, Bool.not_eq_true', Bool.not_eq_false', not_true_eq_false, not_false_eq_true, beq_self_eq_true, Bool.and_true, Bool.true_and, Bool.and_false, Bool.false_and, Bool.and_eq_true, Bool.and_eq_false_iff, beq_iff_eq, beq_eq_false_iff_ne, ne_eq, Bool.not_true, Bool.not_false, Bool.true_eq_false, Bool.false_eq_true, Bool.not_eq_true, Bool.not_eq_false, and_true, true_and, and_false, false_and, or_false, false_or, or_true, true_or] at hb
    simp only [pu', p0', c1', c0', i1', z0', b8_nat]
    with_reducible refine q_end ?_
    with_reducible refine s_then ?_
    refine sCF ?_
    with_reducible refine s_skip ?_
    with_reducible refine s_then ?_
    with_reducible refine s_seq ?_
    rotate_left 1
    replace hb := dF' hb
    simp only [pu', p0', c1', c0', i1', z0', b8_nat]
    with_reducible refine s_end ?_
    with_reducible refine s_then ?_
    refine sCF ?_
    with_reducible refine s_exit ?_
    with_reducible refine s_thenE ?_
    with_reducible refine l_exit ?_
    with_reducible refine s_blkE ?_
    with_reducible refine s_then ?_
    with_reducible refine s_seq ?_
    with_reducible refine s_reg ?_
    refine smove ?_
    simp only [pu', p0', c1', c0', i1', z0', b8_nat]
    refine smove ?_
    simp only [pu', p0', c1', c0', i1', z0', b8_nat]
    rotate_left 1
  · refine l_next (c, j + 1) ⟨by simp only []; omega, by simp only []; omega⟩ (by simp only []; omega) (by rfl) rfl
  · have hjn : j = n0 := Classical.byContradiction fun hne => by
      rw [hch j hne] at hb
      simp at hb
    subst hjn
    have hov2 := hov (fun e => by rw [e] at hb; simp at hb)
    obtain ⟨ho, hoth⟩ := hov2
    have hc0 : c = 0 := by omega
    subst hc0
    have el6 := mkEL encT_ok tk0 hS
    have el7 := mkEL encW_ok wk0 hO.elts
    with_reducible refine s_reg ?_
    refine smove ?_
    simp only [pu', p0', c1', c0', i1', z0', b8_nat]
    refine sadd ?_
    simp only [pu', p0', c1', c0', i1', z0', b8_nat]
    refine sassign ?_
    simp only [pu', p0', c1', c0', i1', z0', b8_nat]
    with_reducible refine s_end ?_
    with_reducible refine s_then ?_
    with_reducible refine s_seq ?_
    with_reducible refine s_seq ?_
    with_reducible refine s_reg ?_
    refine sassign ?_
    simp only [pu', p0', c1', c0', i1', z0', b8_nat]
    with_reducible refine s_end ?_
    with_reducible refine s_then ?_
    with_reducible refine s_block ?_
    refine s_loop hm (fun (b : Nat) s' => [s' 0, sb, s' 2, s' 3, s' 4, B true, sl, s' 7, s' 8, s' 9, sw, s' 11, I i, s' 13, I a, s' 15, s' 16, s' 17, .ptr (H.length + 1) 0, s1, I p.w, s' 21, I 1, I j, I b, s' 25, s' 26, s' 27, s' 28, s' 29, s' 30, s' 31, s' 32, s' 33, s' 34, s' 35, s' 36, s' 37, s' 38, s' 39, s' 40, s' 41, s' 42, s' 43, s' 44, s' 45, s' 46, s' 47, s' 48, s' 49, s' 50, s' 51, s' 52, s' 53, s' 54, s' 55, s' 56, s' 57, s' 58, s' 59, s' 60, s' 61, s' 62, s' 63, s' 64, s' 65, s' 66, s' 67, s' 68, s' 69, s' 70, s' 71, s' 72, s' 73, s' 74, s' 75, s' 76, s' 77, s' 78, s' 79, s' 80, s' 81, s' 82, s' 83, s' 84, s' 85, s' 86, s' 87, s' 88, s' 89, s' 90, s' 91, s' 92, s' 93, s' 94, s' 95, s' 96, s' 97, s' 98, s' 99, s' 100, s' 101, s' 102, s' 103, s' 104, s' 105, s' 106, s' 107, s' 108, s' 109, s' 110, s' 111, s' 112, s' 113, s' 114, s' 115, s' 116, s' 117, s' 118, s' 119, s' 120, s' 121, s' 122, s' 123, s' 124, s' 125, s' 126, s' 127, s' 128, s' 129, s' 130, s' 131, s' 132, s' 133, s' 134, s' 135, s' 136, s' 137, s' 138, s' 139, s' 140, s' 141, s' 142, s' 143, s' 144, s' 145, s' 146, s' 147, s' 148, s' 149, s' 150, s' 151, s' 152, s' 153, s' 154, s' 155, s' 156, s' 157, s' 158, s' 159, s' 160, s' 161, s' 162, s' 163, s' 164, s' 165, s' 166, s' 167, s' 168, s' 169, s' 170, s' 171, s' 172, s' 173, s' 174, s' 175, s' 176, s' 177, s' 178, s' 179, s' 180, s' 181, s' 182, s' 183, s' 184, s' 185, s' 186, s' 187, s' 188, s' 189, s' 190, s' 191, s' 192, s' 193, s' 194, s' 195, s' 196, s' 197, s' 198, s' 199, s' 200, s' 201, s' 202, s' 203, s' 204, s' 205, s' 206, s' 207, s' 208, s' 209, s' 210, s' 211, s' 212, s' 213, s' 214, s' 215, s' 216, s' 217, s' 218, s' 219, s' 220, s' 221, s' 222, s' 223, s' 224, s' 225, s' 226, s' 227, s' 228, s' 229, s' 230, s' 231, s' 232, s' 233, s' 234, s' 235, s' 236, s' 237]) (fun _ => H ++ [o1, .cells [I p.j, I p.d] 30 true]) (fun b => b ≤ 4) (fun b => 4 - b) 0 (by rfl) rfl (by simp) ?_
    intro m s' hm4
    have hom := hoth m
    have el8 := mkEL encT_ok tk0 hS
    have el9 := mkEL encW_ok wk0 hO.elts
    focus
      with_reducible refine s_seq ?_
      with_reducible refine s_seq ?_
      with_reducible refine s_reg ?_
      refine smove ?_
      simp only [pu', p0', c1', c0', i1', z0', b8_nat]
      refine smove ?_
      simp only [pu', p0', c1', c0', i1', z0', b8_nat]
      refine slenE ?_
      simp only [pu', p0', c1', c0', i1', z0', b8_nat]
      refine sLt (fun hb => ?_) (fun hb => ?_)
      replace hb := dT' hb
      simp only [pu', p0', c1', c0', i1', z0', b8_nat]
      with_reducible refine s_end ?_
      with_reducible refine s_then ?_
      refine sCT ?_
      with_reducible refine s_skip ?_
      with_reducible refine s_then ?_
      with_reducible refine s_seq ?_
      with_reducible refine s_block ?_
      with_reducible refine s_seq ?_
      with_reducible refine s_reg ?_
      refine smove ?_
      simp only [pu', p0', c1', c0', i1', z0', b8_nat]
      refine smove ?_
      simp only [pu', p0', c1', c0', i1', z0', b8_nat]
      refine sNe (fun hb => ?_) (fun hb => ?_)
      replace hb := dT' hb
      simp only [pu', p0', c1', c0', i1', z0', b8_nat]
      refine smove ?_
      simp only [pu', p0', c1', c0', i1', z0', b8_nat]
      refine smove ?_
      simp only [pu', p0', c1', c0', i1', z0', b8_nat]
      refine smove ?_
      simp only [pu', p0', c1', c0', i1', z0', b8_nat]
      refine sidxE ?_
      simp only [pu', p0', c1', c0', i1', z0', b8_nat]
      refine sfadE ?_
      simp only [pu', p0', c1', c0', i1', z0', b8_nat]
      refine sloadF ?_
      simp only [pu', p0', c1', c0', i1', z0', b8_nat]
      refine smove ?_
      simp only [pu', p0', c1', c0', i1', z0', b8_nat]
      refine sEq (fun hb => ?_) (fun hb => ?_)
      replace hb := dT' hb
      (exfalso; omega)
      replace hb := dF' hb
      simp only [pu', p0', c1', c0', i1', z0', b8_nat]
      refine spickT ?_
      simp only [pu', p0', c1', c0', i1', z0', b8_nat]
      with_reducible refine s_end ?_
      with_reducible refine s_then ?_
      refine sCF ?_
      with_reducible refine s_skip ?_
      with_reducible refine s_blkN ?_
      with_reducible refine s_then ?_
      with_reducible refine s_reg ?_
      refine smove ?_
      simp only [pu', p0', c1', c0', i1', z0', b8_nat]
      refine sadd ?_
      simp only [pu', p0', c1', c0', i1', z0', b8_nat]
      refine sassign ?_
      simp only [pu', p0', c1', c0', i1', z0', b8_nat]
      with_reducible refine s_end ?_
      rotate_left 1
      replace hb := dF' hb
      simp only [pu', p0', c1', c0', i1', z0', b8_nat]
      refine smove ?_
      simp only [pu', p0', c1', c0', i1', z0', b8_nat]
      refine sN ?_
      simp only [pu', p0', c1', c0', i1', z0', b8_nat]
      refine sN ?_
      simp only [pu', p0', c1', c0', i1', z0', b8_nat]
      refine sN ?_
      simp only [pu', p0', c1', c0', i1', z0', b8_nat]
      refine sN ?_
      simp only [pu', p0', c1', c0', i1', z0', b8_nat]
      refine sN ?_
      simp only [pu', p0', c1', c0', i1', z0', b8_nat]
      refine sN ?_
      simp only [pu', p0', c1', c0', i1', z0', b8_nat]
      refine sN ?_
      simp only [pu', p0', c1', c0', i1', z0', b8_nat]
      refine spickF ?_
      simp only [pu', p0', c1', c0', i1', z0', b8_nat]
      with_reducible refine s_end ?_
      with_reducible refine s_then ?_
      refine sCF ?_
      with_reducible refine s_skip ?_
      with_reducible refine s_blkN ?_
      with_reducible refine s_then ?_
      with_reducible refine s_reg ?_
      refine smove ?_
      simp only [pu', p0', c1', c0', i1', z0', b8_nat]
      refine sadd ?_
      simp only [pu', p0', c1', c0', i1', z0', b8_nat]
      refine sassign ?_
      simp only [pu', p0', c1', c0', i1', z0', b8_nat]
      with_reducible refine s_end ?_
      rotate_left 1
      replace hb := dF' hb
      simp only [pu', p0', c1', c0', i1', z0', b8_nat]
      with_reducible refine s_end ?_
      with_reducible refine s_then ?_
      refine sCF ?_
      with_reducible refine s_exit ?_
      with_reducible refine s_thenE ?_
      with_reducible refine l_exit ?_
      with_reducible refine s_blkE ?_
      with_reducible refine s_then ?_
      with_reducible refine s_seq ?_
      with_reducible refine s_reg ?_
      refine smove ?_
      simp only [pu', p0', c1', c0', i1', z0', b8_nat]
      refine smove ?_
      simp only [pu', p0', c1', c0', i1', z0', b8_nat]
      refine sidxE ?_
      simp only [pu', p0', c1', c0', i1', z0', b8_nat]
      refine sfadE ?_
      simp only [pu', p0', c1', c0', i1', z0', b8_nat]
      refine sloadBF (fun hb => ?_) (fun hb => ?_)
      simp only [decide_eq_true_eq, Int.toNat_natCast, decide_eq_false_iff_not, Bool.not_eq_true', Bool.not_eq_false', not_true_eq_false, not_false_eq_true, beq_self_eq_true, Bool.and_true, Bool.true_and, Bool.and_false, Bool.false_and, Bool.and_eq_true, Bool.and_eq_false_iff, beq_iff_eq, beq_eq_false_iff_ne, ne_eq, Bool.not_true, Bool.not_false, Bool.true_eq_false, Bool.false_eq_true, Bool.not_eq_true, Bool.not_eq_false, and_true, true_and, and_false, false_and, or_false, false_or, or_true, true_or] at hb
      exact bX' hb (by with_reducible assumption)
      simp only [decide_eq_true_eq, Int.toNat_natCast, decide_eq_false_iff_not, Bool.not_eq_true', Bool.not_eq_false', not_true_eq_false, not_false_eq_true, beq_self_eq_true, Bool.and_true, Bool.true_and, Bool.and_false, Bool.false_and, Bool.and_eq_true, Bool.and_eq_false_iff, beq_iff_eq, beq_eq_false_iff_ne, ne_eq, Bool.not_true, Bool.not_false, Bool.true_eq_false, Bool.false_eq_true, Bool.not_eq_true, Bool.not_eq_false, and_true, true_and, and_false, false_and, or_false, false_or, or_true, true_or] at hb
      simp only [pu', p0', c1', c0', i1', z0', b8_nat]
      with_reducible refine s_end ?_
      with_reducible refine s_then ?_
      refine sCF ?_
      with_reducible refine s_skip ?_
      with_reducible refine s_blkN ?_
      with_reducible refine s_then ?_
      with_reducible refine s_reg ?_
      refine smove ?_
      simp only [pu', p0', c1', c0', i1', z0', b8_nat]
      refine sadd ?_
      simp only [pu', p0', c1', c0', i1', z0', b8_nat]
      refine sassign ?_
      simp only [pu', p0', c1', c0', i1', z0', b8_nat]
      with_reducible refine s_end ?_
      rotate_left 1
    · refine l_next (m + 1) (by omega) (by omega) (by rfl) rfl
    · refine l_next (m + 1) (by omega) (by omega) (by rfl) rfl
    · refine l_next (1, j + 1) ⟨by simp only []; omega, .inr ⟨rfl, by simp only []; omega⟩⟩ (by simp only []; omega) (by rfl) rfl
  obtain ⟨iw, ow, cw, ⟨cc, uu, hsw⟩, g1, g2, g3, g4⟩ := set_own (e := 30) (H := H ++ [o1, .cells [I p.j, I p.d] 30 true]) encW_ok (hO.ext (ext_app _ _)) (n := a) (by rw [hwl]; exact ha4) wk0 (y := ⟨p.j, p.d⟩) (vs := [I p.j, I p.d]) (off := 0) (by rfl) (Nat.le_refl _)
  have hel : elP sw 2 (a : Int) = .ptr iw (ow + a * 2) := by rw [hsw, elP_sl, Int.toNat_natCast]
  have hbd := inv_bd hI hl
  have hbd2 := inv_bd ps.inv (by omega)
  have hlw : (ws.set a ⟨p.j, p.d⟩).length = 4 := ps.inv.len
  have ho1 := ret_obj hR1
  have how : ∀ k, objOf sw = some k → k < H.length := fun k hk => hO.lt hk
  have hS1 := (hE1 [.cells [I p.j, I p.d] 30 true]).oth g4 (fun k hk hh => by have h1 := ho1 k hk; have h2 := how k hh; omega)
  have c37 := left_c (H ++ [o1, .cells [I p.j, I p.d] 30 true]) sl sw l ws (hS.ext (ext_app _ _)) (hO.elts.ext (ext_app _ _)) (by omega) (by omega) hbd.1 hbd.2.2.1
  have c37b := att_c (H ++ [o1, .cells [I p.j, I p.d] 30 true]) sl l (hS.ext (ext_app _ _)) (by omega) hbd.2.1
  have hL1 : p.w = 2 ∨ p.w = 3 → leftS p.l (ws.set a ⟨p.j, p.d⟩) = leftS l ws - 1 := fun h => by rw [ps.left, if_pos h]
  have hL2 : p.w = 4 → leftS p.l (ws.set a ⟨p.j, p.d⟩) = leftS l ws + (ws.getD a wk0).d := fun h => by rw [ps.left, if_neg (by omega), if_pos h]
  have hL3 : ¬ (p.w = 2 ∨ p.w = 3) → p.w ≠ 4 → leftS p.l (ws.set a ⟨p.j, p.d⟩) = leftS l ws := fun h h1 => by rw [ps.left, if_neg h, if_neg h1]
  have hA1 : p.w = 4 → attS p.l = attS l + 1 := fun h => by rw [ps.att, if_pos h]
  have hA2 : p.w ≠ 4 → attS p.l = attS l := fun h => by rw [ps.att, if_neg h, Int.add_zero]
  have hdb := hbd.2.2.1 a (by omega)
  have hb4 := hbd.2.2.2
  have hb5 := hbd2.2.2.2
  have el10 := mkEL encT_ok tk0 hS
  have el11 := mkEL encW_ok wk0 hO.elts
  refine sM (hx := rfl) (c37) ?_
  simp only [pu', p0', c1', c0', i1', z0', b8_nat]
  refine smove ?_
  simp only [pu', p0', c1', c0', i1', z0', b8_nat]
  refine sM (hx := rfl) (c37b) ?_
  simp only [pu', p0', c1', c0', i1', z0', b8_nat]
  refine sassign ?_
  simp only [pu', p0', c1', c0', i1', z0', b8_nat]
  refine sassign ?_
  simp only [pu', p0', c1', c0', i1', z0', b8_nat]
  with_reducible refine s_end ?_
  with_reducible refine s_then ?_
  with_reducible refine s_seq ?_
  with_reducible refine s_reg ?_
  refine smove ?_
  simp only [pu', p0', c1', c0', i1', z0', b8_nat]
  refine smove ?_
  simp only [pu', p0', c1', c0', i1', z0', b8_nat]
  refine sidxE ?_
  simp only [pu', p0', c1', c0', i1', z0', b8_nat]
  refine sfadE ?_
  simp only [pu', p0', c1', c0', i1', z0', b8_nat]
  refine sloadF ?_
  simp only [pu', p0', c1', c0', i1', z0', b8_nat]
  refine sassign ?_
  simp only [pu', p0', c1', c0', i1', z0', b8_nat]
  with_reducible refine s_end ?_
  with_reducible refine s_then ?_
  with_reducible refine s_seq ?_
  with_reducible refine s_reg ?_
  refine smove ?_
  simp only [pu', p0', c1', c0', i1', z0', b8_nat]
  refine smove ?_
  simp only [pu', p0', c1', c0', i1', z0', b8_nat]
  refine sloadW ?_
  simp only [pu', p0', c1', c0', i1', z0', b8_nat]
  refine smove ?_
  simp only [pu', p0', c1', c0', i1', z0', b8_nat]
  refine sidxE ?_
  simp only [pu', p0', c1', c0', i1', z0', b8_nat]
  simp only [hel]
  refine s_gH (by rfl) (x_storeA CA.p (by exact e_any (by rfl)) (by exact e_any (by rfl)) (by rfl) (by rfl) g1 (by simpa using g2)) ?_
  simp only [Fr.put, List.set_cons_succ, List.set_cons_zero, Int.toNat_natCast, Nat.zero_add]
  change Own encW 2 30 ((H ++ [o1, .cells [I p.j, I p.d] 30 true]).set iw (.cells (setMany cw (ow + a * 2) [I p.j, I p.d]) 30 true)) sw (ws.set a ⟨p.j, p.d⟩) at g3
  change TS ((H ++ [o1, .cells [I p.j, I p.d] 30 true]).set iw (.cells (setMany cw (ow + a * 2) [I p.j, I p.d]) 30 true)) s1 p.l at hS1
  change Oth _ _ ((H ++ [o1, .cells [I p.j, I p.d] 30 true]).set iw (.cells (setMany cw (ow + a * 2) [I p.j, I p.d]) 30 true)) at g4
  generalize (H ++ [o1, AObj.cells [I p.j, I p.d] 30 true]).set iw (.cells (setMany cw (ow + a * 2) [I p.j, I p.d]) 30 true) = X at *
  have c40 := left_c X s1 sw p.l (ws.set a ⟨p.j, p.d⟩) hS1 g3.elts (by omega) (by omega) hbd2.1 hbd2.2.2.1
  have c51 := att_c X s1 p.l hS1 (by omega) hbd2.2.1
  have el12 := mkEL encT_ok tk0 hS1
  have el13 := mkEL encW_ok wk0 g3.elts
  focus
    refine sassign ?_
    simp only [pu', p0', c1', c0', i1', z0', b8_nat]
    with_reducible refine s_end ?_
    with_reducible refine s_then ?_
    with_reducible refine s_seq ?_
    with_reducible refine s_reg ?_
    refine smove ?_
    simp only [pu', p0', c1', c0', i1', z0', b8_nat]
    refine smove ?_
    simp only [pu', p0', c1', c0', i1', z0', b8_nat]
    refine sM (hx := rfl) (c40) ?_
    simp only [pu', p0', c1', c0', i1', z0', b8_nat]
    refine sassign ?_
    simp only [pu', p0', c1', c0', i1', z0', b8_nat]
    with_reducible refine s_end ?_
    with_reducible refine s_then ?_
    with_reducible refine s_seq ?_
    with_reducible refine s_reg ?_
    refine sassign ?_
    simp only [pu', p0', c1', c0', i1', z0', b8_nat]
    with_reducible refine s_end ?_
    with_reducible refine s_then ?_
    with_reducible refine s_seq ?_
    with_reducible refine s_seq ?_
    with_reducible refine s_reg ?_
    refine smove ?_
    simp only [pu', p0', c1', c0', i1', z0', b8_nat]
    refine sEq (fun hb => ?_) (fun hb => ?_)
    replace hb := dT' hb
    simp only [pu', p0', c1', c0', i1', z0', b8_nat]
    with_reducible refine s_end ?_
    with_reducible refine s_then ?_
    refine sCT ?_
    with_reducible refine s_reg ?_
    refine sassign ?_
    simp only [pu', p0', c1', c0', i1', z0', b8_nat]
    with_reducible refine s_end ?_
    with_reducible refine s_then ?_
    with_reducible refine s_seq ?_
    with_reducible refine s_reg ?_
    refine smove ?_
    simp only [pu', p0', c1', c0', i1', z0', b8_nat]
    refine sassign ?_
    simp only [pu', p0', c1', c0', i1', z0', b8_nat]
    with_reducible refine s_end ?_
    with_reducible refine s_then ?_
    with_reducible refine s_seq ?_
    with_reducible refine s_seq ?_
    with_reducible refine s_reg ?_
    refine smove ?_
    simp only [pu', p0', c1', c0', i1', z0', b8_nat]
    with_reducible refine s_end ?_
    with_reducible refine s_then ?_
    rotate_left 1
    replace hb := dF' hb
    simp only [pu', p0', c1', c0', i1', z0', b8_nat]
    with_reducible refine s_end ?_
    with_reducible refine s_then ?_
    refine sCF ?_
    with_reducible refine s_skip ?_
    with_reducible refine s_then ?_
    with_reducible refine s_seq ?_
    with_reducible refine s_reg ?_
    refine smove ?_
    simp only [pu', p0', c1', c0', i1', z0', b8_nat]
    refine sassign ?_
    simp only [pu', p0', c1', c0', i1', z0', b8_nat]
    with_reducible refine s_end ?_
    with_reducible refine s_then ?_
    with_reducible refine s_seq ?_
    with_reducible refine s_seq ?_
    with_reducible refine s_reg ?_
    refine smove ?_
    simp only [pu', p0', c1', c0', i1', z0', b8_nat]
    with_reducible refine s_end ?_
    with_reducible refine s_then ?_
    rotate_left 1
  all_goals
    refine s_cut (fun (b : Unit) s' => [s' 0, sb, s' 2, s' 3, s' 4, B true, s1, s' 7, s' 8, s' 9, sw, s' 11, I i, s' 13, s' 14, s' 15, s' 16, s' 17, s' 18, s' 19, s' 20, s' 21, I c, s' 23, s' 24, s' 25, I (attS l), s' 27, I (leftS p.l (ws.set a ⟨p.j, p.d⟩)), I (attS p.l - attS l), I (leftS p.l (ws.set a ⟨p.j, p.d⟩)), s' 31, s' 32, s' 33, s' 34, s' 35, s' 36, s' 37, s' 38, s' 39, s' 40, s' 41, s' 42, s' 43, s' 44, s' 45, s' 46, s' 47, s' 48, s' 49, s' 50, s' 51, s' 52, s' 53, s' 54, s' 55, s' 56, s' 57, s' 58, s' 59, s' 60, s' 61, s' 62, s' 63, s' 64, s' 65, s' 66, s' 67, s' 68, s' 69, s' 70, s' 71, s' 72, s' 73, s' 74, s' 75, s' 76, s' 77, s' 78, s' 79, s' 80, s' 81, s' 82, s' 83, s' 84, s' 85, s' 86, s' 87, s' 88, s' 89, s' 90, s' 91, s' 92, s' 93, s' 94, s' 95, s' 96, s' 97, s' 98, s' 99, s' 100, s' 101, s' 102, s' 103, s' 104, s' 105, s' 106, s' 107, s' 108, s' 109, s' 110, s' 111, s' 112, s' 113, s' 114, s' 115, s' 116, s' 117, s' 118, s' 119, s' 120, s' 121, s' 122, s' 123, s' 124, s' 125, s' 126, s' 127, s' 128, s' 129, s' 130, s' 131, s' 132, s' 133, s' 134, s' 135, s' 136, s' 137, s' 138, s' 139, s' 140, s' 141, s' 142, s' 143, s' 144, s' 145, s' 146, s' 147, s' 148, s' 149, s' 150, s' 151, s' 152, s' 153, s' 154, s' 155, s' 156, s' 157, s' 158, s' 159, s' 160, s' 161, s' 162, s' 163, s' 164, s' 165, s' 166, s' 167, s' 168, s' 169, s' 170, s' 171, s' 172, s' 173, s' 174, s' 175, s' 176, s' 177, s' 178, s' 179, s' 180, s' 181, s' 182, s' 183, s' 184, s' 185, s' 186, s' 187, s' 188, s' 189, s' 190, s' 191, s' 192, s' 193, s' 194, s' 195, s' 196, s' 197, s' 198, s' 199, s' 200, s' 201, s' 202, s' 203, s' 204, s' 205, s' 206, s' 207, s' 208, s' 209, s' 210, s' 211, s' 212, s' 213, s' 214, s' 215, s' 216, s' 217, s' 218, s' 219, s' 220, s' 221, s' 222, s' 223, s' 224, s' 225, s' 226, s' 227, s' 228, s' 229, s' 230, s' 231, s' 232, s' 233, s' 234, s' 235, s' 236, s' 237]) (fun _ => X) (fun _ => True) ?_ ?_
    · skip
      first
        | with_reducible refine s_block ?_
          with_reducible refine s_seq ?_
          with_reducible refine s_seq ?_
          with_reducible refine s_reg ?_
          refine sEq (fun hb => ?_) (fun hb => ?_)
          replace hb := dT' hb
          (exfalso; omega)
          replace hb := dF' hb
          simp only [pu', p0', c1', c0', i1', z0', b8_nat]
          refine sassign ?_
          simp only [pu', p0', c1', c0', i1', z0', b8_nat]
          with_reducible refine s_end ?_
          with_reducible refine s_then ?_
          refine sCF ?_
          with_reducible refine s_reg ?_
          refine sEq (fun hb => ?_) (fun hb => ?_)
          replace hb := dT' hb
          (exfalso; omega)
          replace hb := dF' hb
          simp only [pu', p0', c1', c0', i1', z0', b8_nat]
          refine sassign ?_
          simp only [pu', p0', c1', c0', i1', z0', b8_nat]
          with_reducible refine s_end ?_
          with_reducible refine s_then ?_
          refine sCF ?_
          with_reducible refine s_seq ?_
          with_reducible refine s_reg ?_
          refine sEq (fun hb => ?_) (fun hb => ?_)
          replace hb := dT' hb
          simp only [pu', p0', c1', c0', i1', z0', b8_nat]
          refine sassign ?_
          simp only [pu', p0', c1', c0', i1', z0', b8_nat]
          with_reducible refine s_end ?_
          with_reducible refine s_then ?_
          refine sCT ?_
          with_reducible refine s_reg ?_
          refine smove ?_
          simp only [pu', p0', c1', c0', i1', z0', b8_nat]
          refine smove ?_
          simp only [pu', p0', c1', c0', i1', z0', b8_nat]
          refine sadd ?_
          simp only [pu', p0', c1', c0', i1', z0', b8_nat]
          refine sassign ?_
          simp only [pu', p0', c1', c0', i1', z0', b8_nat]
          with_reducible refine s_end ?_
          with_reducible refine s_blkN ?_
          with_reducible refine s_then ?_
          rotate_left 1
          replace hb := dF' hb
          exact absurd (by with_reducible assumption) hb
        | with_reducible refine s_block ?_
          with_reducible refine s_seq ?_
          with_reducible refine s_seq ?_
          with_reducible refine s_reg ?_
          refine sEq (fun hb => ?_) (fun hb => ?_)
          replace hb := dT' hb
          simp only [pu', p0', c1', c0', i1', z0', b8_nat]
          refine sassign ?_
          simp only [pu', p0', c1', c0', i1', z0', b8_nat]
          with_reducible refine s_end ?_
          with_reducible refine s_then ?_
          refine sCT ?_
          with_reducible refine s_skip ?_
          with_reducible refine s_then ?_
          refine sCT ?_
          with_reducible refine s_reg ?_
          refine smove ?_
          simp only [pu', p0', c1', c0', i1', z0', b8_nat]
          refine ssub ?_
          simp only [pu', p0', c1', c0', i1', z0', b8_nat]
          refine sassign ?_
          simp only [pu', p0', c1', c0', i1', z0', b8_nat]
          with_reducible refine s_end ?_
          with_reducible refine s_blkN ?_
          with_reducible refine s_then ?_
          rotate_left 1
          replace hb := dF' hb
          simp only [pu', p0', c1', c0', i1', z0', b8_nat]
          refine sassign ?_
          simp only [pu', p0', c1', c0', i1', z0', b8_nat]
          with_reducible refine s_end ?_
          with_reducible refine s_then ?_
          refine sCF ?_
          with_reducible refine s_reg ?_
          refine sEq (fun hb => ?_) (fun hb => ?_)
          replace hb := dT' hb
          simp only [pu', p0', c1', c0', i1', z0', b8_nat]
          refine sassign ?_
          simp only [pu', p0', c1', c0', i1', z0', b8_nat]
          with_reducible refine s_end ?_
          with_reducible refine s_then ?_
          refine sCT ?_
          with_reducible refine s_reg ?_
          refine smove ?_
          simp only [pu', p0', c1', c0', i1', z0', b8_nat]
          refine ssub ?_
          simp only [pu', p0', c1', c0', i1', z0', b8_nat]
          refine sassign ?_
          simp only [pu', p0', c1', c0', i1', z0', b8_nat]
          with_reducible refine s_end ?_
          with_reducible refine s_blkN ?_
          with_reducible refine s_then ?_
          rotate_left 1
          replace hb := dF' hb
          simp only [pu', p0', c1', c0', i1', z0', b8_nat]
          refine sassign ?_
          simp only [pu', p0', c1', c0', i1', z0', b8_nat]
          with_reducible refine s_end ?_
          with_reducible refine s_then ?_
          refine sCF ?_
          with_reducible refine s_seq ?_
          with_reducible refine s_reg ?_
          refine sEq (fun hb => ?_) (fun hb => ?_)
          replace hb := dT' hb
          (exfalso; omega)
          replace hb := dF' hb
          simp only [pu', p0', c1', c0', i1', z0', b8_nat]
          refine sassign ?_
          simp only [pu', p0', c1', c0', i1', z0', b8_nat]
          with_reducible refine s_end ?_
          with_reducible refine s_then ?_
          refine sCF ?_
          with_reducible refine s_skip ?_
          with_reducible refine s_blkN ?_
          with_reducible refine s_then ?_
          rotate_left 1
      all_goals
        refine at_in () trivial ?_ rfl
        first
          | (rw [hL1 (by omega), hA2 (by omega), Int.sub_self]; rfl)
          | (rw [hL2 (by omega), hA1 (by omega), show attS l + 1 - attS l = 1 by omega]; rfl)
          | (rw [hL3 (by omega) (by omega), hA2 (by omega), Int.sub_self]; rfl)
    intro _ s' _
    with_reducible refine s_seq ?_
    with_reducible refine s_seq ?_
    with_reducible refine s_reg ?_
    refine smove ?_
    simp only [pu', p0', c1', c0', i1', z0', b8_nat]
    refine sGt (fun hb => ?_) (fun hb => ?_)
    replace hb := dT' hb
    (exfalso; omega)
    replace hb := dF' hb
    simp only [pu', p0', c1', c0', i1', z0', b8_nat]
    refine smove ?_
    simp only [pu', p0', c1', c0', i1', z0', b8_nat]
    refine smove ?_
    simp only [pu', p0', c1', c0', i1', z0', b8_nat]
    refine sM (hx := rfl) (c51) ?_
    simp only [pu', p0', c1', c0', i1', z0', b8_nat]
    refine smove ?_
    simp only [pu', p0', c1', c0', i1', z0', b8_nat]
    refine smove ?_
    simp only [pu', p0', c1', c0', i1', z0', b8_nat]
    refine sadd ?_
    simp only [pu', p0', c1', c0', i1', z0', b8_nat]
    refine sNe (fun hb => ?_) (fun hb => ?_)
    replace hb := dT' hb
    (exfalso; omega)
    replace hb := dF' hb
    simp only [pu', p0', c1', c0', i1', z0', b8_nat]
    refine spickF ?_
    simp only [pu', p0', c1', c0', i1', z0', b8_nat]
    refine smove ?_
    simp only [pu', p0', c1', c0', i1', z0', b8_nat]
    refine smove ?_
    simp only [pu', p0', c1', c0', i1', z0', b8_nat]
    refine smove ?_
    simp only [pu', p0', c1', c0', i1', z0', b8_nat]
    refine sNe (fun hb => ?_) (fun hb => ?_)
    replace hb := dT' hb
    (exfalso; omega)
    replace hb := dF' hb
    simp only [pu', p0', c1', c0', i1', z0', b8_nat]
    refine spickF ?_
    simp only [pu', p0', c1', c0', i1', z0', b8_nat]
    with_reducible refine s_end ?_
    with_reducible refine s_then ?_
    refine sCF ?_
    with_reducible refine s_skip ?_
    with_reducible refine s_then ?_
    with_reducible refine s_seq ?_
    with_reducible refine s_reg ?_
    refine sassign ?_
    simp only [pu', p0', c1', c0', i1', z0', b8_nat]
    with_reducible refine s_end ?_
    with_reducible refine s_then ?_
    with_reducible refine s_block ?_
    refine s_loop hm (fun (b : Nat) s' => [s' 0, sb, s' 2, s' 3, s' 4, B true, s1, s' 7, s' 8, s' 9, sw, s' 11, I i, s' 13, s' 14, s' 15, s' 16, s' 17, s' 18, s' 19, s' 20, s' 21, s' 22, s' 23, s' 24, s' 25, s' 26, s' 27, s' 28, s' 29, s' 30, I b, s' 32, s' 33, s' 34, s' 35, s' 36, s' 37, s' 38, s' 39, s' 40, s' 41, s' 42, s' 43, s' 44, s' 45, s' 46, s' 47, s' 48, s' 49, s' 50, s' 51, s' 52, s' 53, s' 54, s' 55, s' 56, s' 57, s' 58, s' 59, s' 60, s' 61, s' 62, s' 63, s' 64, s' 65, s' 66, s' 67, s' 68, s' 69, s' 70, s' 71, s' 72, s' 73, s' 74, s' 75, s' 76, s' 77, s' 78, s' 79, s' 80, s' 81, s' 82, s' 83, s' 84, s' 85, s' 86, s' 87, s' 88, s' 89, s' 90, s' 91, s' 92, s' 93, s' 94, s' 95, s' 96, s' 97, s' 98, s' 99, s' 100, s' 101, s' 102, s' 103, s' 104, s' 105, s' 106, s' 107, s' 108, s' 109, s' 110, s' 111, s' 112, s' 113, s' 114, s' 115, s' 116, s' 117, s' 118, s' 119, s' 120, s' 121, s' 122, s' 123, s' 124, s' 125, s' 126, s' 127, s' 128, s' 129, s' 130, s' 131, s' 132, s' 133, s' 134, s' 135, s' 136, s' 137, s' 138, s' 139, s' 140, s' 141, s' 142, s' 143, s' 144, s' 145, s' 146, s' 147, s' 148, s' 149, s' 150, s' 151, s' 152, s' 153, s' 154, s' 155, s' 156, s' 157, s' 158, s' 159, s' 160, s' 161, s' 162, s' 163, s' 164, s' 165, s' 166, s' 167, s' 168, s' 169, s' 170, s' 171, s' 172, s' 173, s' 174, s' 175, s' 176, s' 177, s' 178, s' 179, s' 180, s' 181, s' 182, s' 183, s' 184, s' 185, s' 186, s' 187, s' 188, s' 189, s' 190, s' 191, s' 192, s' 193, s' 194, s' 195, s' 196, s' 197, s' 198, s' 199, s' 200, s' 201, s' 202, s' 203, s' 204, s' 205, s' 206, s' 207, s' 208, s' 209, s' 210, s' 211, s' 212, s' 213, s' 214, s' 215, s' 216, s' 217, s' 218, s' 219, s' 220, s' 221, s' 222, s' 223, s' 224, s' 225, s' 226, s' 227, s' 228, s' 229, s' 230, s' 231, s' 232, s' 233, s' 234, s' 235, s' 236, s' 237]) (fun _ => X) (fun b => b ≤ 4) (fun b => 4 - b) 0 (by rfl) rfl (by simp) ?_
    intro m s' hm4
    have c56 : m < 4 → ACalls Try.prog 19 [.agg (encW ((ws.set a ⟨p.j, p.d⟩).getD m wk0)), s1] X (fun r h' => r = I 0 ∧ h' = X) := fun hm => by
      have := check_any ((ws.set a ⟨p.j, p.d⟩).getD m wk0).j ((ws.set a ⟨p.j, p.d⟩).getD m wk0).d X s1 p.l hS1 (by omega)
      rw [ps.inv.ck m hm] at this; exact this
    have el14 := mkEL encT_ok tk0 hS1
    have el15 := mkEL encW_ok wk0 g3.elts
    focus
      with_reducible refine s_seq ?_
      with_reducible refine s_seq ?_
      with_reducible refine s_reg ?_
      refine smove ?_
      simp only [pu', p0', c1', c0', i1', z0', b8_nat]
      refine smove ?_
      simp only [pu', p0', c1', c0', i1', z0', b8_nat]
      refine slenE ?_
      simp only [pu', p0', c1', c0', i1', z0', b8_nat]
      refine sLt (fun hb => ?_) (fun hb => ?_)
      replace hb := dT' hb
      simp only [pu', p0', c1', c0', i1', z0', b8_nat]
      with_reducible refine s_end ?_
      with_reducible refine s_then ?_
      refine sCT ?_
      with_reducible refine s_skip ?_
      with_reducible refine s_then ?_
      with_reducible refine s_seq ?_
      with_reducible refine s_block ?_
      with_reducible refine s_seq ?_
      with_reducible refine s_reg ?_
      refine smove ?_
      simp only [pu', p0', c1', c0', i1', z0', b8_nat]
      refine smove ?_
      simp only [pu', p0', c1', c0', i1', z0', b8_nat]
      refine sidxE ?_
      simp only [pu', p0', c1', c0', i1', z0', b8_nat]
      refine sloadE ?_
      simp only [pu', p0', c1', c0', i1', z0', b8_nat]
      refine smove ?_
      simp only [pu', p0', c1', c0', i1', z0', b8_nat]
      refine sM (hx := rfl) (c56 (by omega)) ?_
      simp only [pu', p0', c1', c0', i1', z0', b8_nat]
      refine sNe (fun hb => ?_) (fun hb => ?_)
      replace hb := dT' hb
      (exfalso; omega)
      replace hb := dF' hb
      simp only [pu', p0', c1', c0', i1', z0', b8_nat]
      with_reducible refine s_end ?_
      with_reducible refine s_then ?_
      refine sCF ?_
      with_reducible refine s_skip ?_
      with_reducible refine s_blkN ?_
      with_reducible refine s_then ?_
      with_reducible refine s_reg ?_
      refine smove ?_
      simp only [pu', p0', c1', c0', i1', z0', b8_nat]
      refine sadd ?_
      simp only [pu', p0', c1', c0', i1', z0', b8_nat]
      refine sassign ?_
      simp only [pu', p0', c1', c0', i1', z0', b8_nat]
      with_reducible refine s_end ?_
      rotate_left 1
      replace hb := dF' hb
      simp only [pu', p0', c1', c0', i1', z0', b8_nat]
      with_reducible refine s_end ?_
      with_reducible refine s_then ?_
      refine sCF ?_
      with_reducible refine s_exit ?_
      with_reducible refine s_thenE ?_
      with_reducible refine l_exit ?_
      with_reducible refine s_blkE ?_
      with_reducible refine s_blkN ?_
      with_reducible refine s_then ?_
      with_reducible refine s_reg ?_
      refine smove ?_
      simp only [pu', p0', c1', c0', i1', z0', b8_nat]
      refine sadd ?_
      simp only [pu', p0', c1', c0', i1', z0', b8_nat]
      refine sassign ?_
      simp only [pu', p0', c1', c0', i1', z0', b8_nat]
      with_reducible refine s_end ?_
      rotate_left 1
    · refine l_next (m + 1) (by omega) (by omega) (by rfl) rfl
    · have hxl := hx.1
      have g41 := g4.1
      simp at g41
      refine l_next ⟨i + 1, s1, p.l, sw, ws.set a ⟨p.j, p.d⟩, X⟩ ⟨⟨by simp only []; omega, fun j hj => ?_⟩, hS1, g3, fun j hj => ?_, ?_, by simp only []; omega, by simp only []; omega⟩ (by simp only []; omega) (by rfl) rfl
      · have hne : objOf sw ≠ some j := fun hh => by have := (hz j hh).1; omega
        simp only []
        rw [g4.2 j (by simp; omega) hne, List.getElem?_append_left (by omega), hx.2 j hj]
      · have h1 := how j hj
        exact ⟨(hz j hj).1, fun hh => by have := ho1 j hh; omega⟩
      · have := ps.inv
        simp only []
        rw [show (((i + 1 : Nat)) : Int) = (i : Int) + 1 by omega]
        exact this
theorem law6i (h : Hp) (sa sb : AV) (xs ys : List Int) (hA : Ints .i64 h sa xs) (hB : Ints .i64 h sb ys) : ACalls Try.prog 6 [sa, sb] h (fun r _ => r = B true) := law6 h sa sb xs ys (elts_ints.2 hA) (elts_ints.2 hB)
end Go.Proofs.Ytfhbbpdnmdbjbaa
