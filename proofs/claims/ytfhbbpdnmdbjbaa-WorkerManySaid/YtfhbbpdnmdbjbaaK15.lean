/-
  A part of the proof of a statement of a chapter's seat; conditions: stated at each theorem.
-/
import Derived.Test.YtfhbbpdnmdbjbaaK12
set_option linter.unusedSimpArgs false
set_option linter.unusedVariables false
set_option linter.unusedSectionVars false
set_option maxRecDepth 100000
set_option maxHeartbeats 8000000
namespace Go.Proofs.Ytfhbbpdnmdbjbaa
open Go.Az Go
theorem mod_any (n m : Int) (h1 : 1 ≤ m) (h2 : m ≤ 9223372036854775807) : ACalls Try.prog 31 [I n, I m] [] (fun r _ => r = I (n % m) ∧ r.sc 0 = true) := by
  have h3 := Int.tmod_lt_of_pos n (show 0 < m by omega)
  have h4 := Int.lt_tmod_of_pos n (show 0 < m by omega)
  have h5 : n.tmod m < 0 → n.tmod m + m = n % m := tmod_lo (by omega)
  have h6 : ¬ n.tmod m < 0 → n.tmod m = n % m := tmod_hi (by omega)
  refine acalls_of_wk hm Try.func31 rfl ?_
  simp only [Try.ntmps31, List.length_cons, List.length_nil, Nat.reduceAdd, Nat.reduceSub, List.reduceReplicate, List.cons_append, List.nil_append]
  show wk _ _ none _ _ ⟨_, []⟩ _
  focus
    with_reducible refine s_seq ?_
    with_reducible refine s_reg ?_
    refine sassign ?_
    simp only [pu', p0', c1', c0', i1', z0']
    with_reducible refine s_end ?_
    with_reducible refine s_then ?_
    with_reducible refine s_seq ?_
    with_reducible refine s_seq ?_
    with_reducible refine s_reg ?_
    refine smove ?_
    simp only [pu', p0', c1', c0', i1', z0']
    refine sLt (fun hb => ?_) (fun hb => ?_)
    replace hb := dT' hb
    (exfalso; omega)
    replace hb := dF' hb
    simp only [pu', p0', c1', c0', i1', z0']
    with_reducible refine s_end ?_
    with_reducible refine s_then ?_
    refine sCF ?_
    with_reducible refine s_skip ?_
    with_reducible refine s_then ?_
    with_reducible refine s_seq ?_
    with_reducible refine s_reg ?_
    refine smove ?_
    simp only [pu', p0', c1', c0', i1', z0']
    refine smove ?_
    simp only [pu', p0', c1', c0', i1', z0']
    refine stmod ?_
    simp only [pu', p0', c1', c0', i1', z0']
    refine sassign ?_
    simp only [pu', p0', c1', c0', i1', z0']
    with_reducible refine s_end ?_
    with_reducible refine s_then ?_
    with_reducible refine s_seq ?_
    with_reducible refine s_seq ?_
    with_reducible refine s_reg ?_
    refine smove ?_
    simp only [pu', p0', c1', c0', i1', z0']
    refine sLt (fun hb => ?_) (fun hb => ?_)
    replace hb := dT' hb
    simp only [pu', p0', c1', c0', i1', z0']
    with_reducible refine s_end ?_
    with_reducible refine s_then ?_
    refine sCT ?_
    with_reducible refine s_reg ?_
    refine smove ?_
    simp only [pu', p0', c1', c0', i1', z0']
    refine smove ?_
    simp only [pu', p0', c1', c0', i1', z0']
    refine sadd ?_
    simp only [pu', p0', c1', c0', i1', z0']
    refine sassign ?_
    simp only [pu', p0', c1', c0', i1', z0']
    with_reducible refine s_end ?_
    with_reducible refine s_then ?_
    with_reducible refine s_seq ?_
    with_reducible refine s_reg ?_
    refine smove ?_
    simp only [pu', p0', c1', c0', i1', z0']
    refine sassign ?_
    simp only [pu', p0', c1', c0', i1', z0']
    with_reducible refine s_end ?_
    with_reducible refine s_then ?_
    with_reducible refine s_ret ?_
    rotate_left 1
    replace hb := dF' hb
    simp only [pu', p0', c1', c0', i1', z0']
    with_reducible refine s_end ?_
    with_reducible refine s_then ?_
    refine sCF ?_
    with_reducible refine s_skip ?_
    with_reducible refine s_then ?_
    with_reducible refine s_seq ?_
    with_reducible refine s_reg ?_
    refine smove ?_
    simp only [pu', p0', c1', c0', i1', z0']
    refine sassign ?_
    simp only [pu', p0', c1', c0', i1', z0']
    with_reducible refine s_end ?_
    with_reducible refine s_then ?_
    with_reducible refine s_ret ?_
    rotate_left 1
  all_goals try with_reducible refine w_n ?_
  all_goals refine w_1 rfl (by first | exact v_t (by rfl) | exact v_c1 (C1.p) (by rfl) (HA.p) (by rfl) | exact v_cF (CA.p) (by rfl) (HA.p) (by rfl)) ?_
  · rw [h5 (by assumption)]; exact ⟨rfl, rfl⟩
  · rw [h6 (by assumption)]; exact ⟨rfl, rfl⟩
theorem task_ok (u : Int) (h0 : 1 ≤ u) (h1 : u ≤ 200) : ACalls Try.prog 8 [I u] [] (fun r _ => r = .tup [TA ⟨u, true, false, 0⟩, I 0] ∧ r.sc 0 = true) := by
  have := task_any u
  rw [taskR_yes (by omega)] at this; exact this
theorem bs_34o (x : Tk) : bslC Try.prog 34 1 [(0, TA x)] = some (23, encT x) := by kernel_rfl
instance (x : Tk) : BS Try.prog 34 1 [(0, TA x)] 23 (encT x) := ⟨bs_34o x⟩
theorem ret_obj {h h' : Hp} {l : List Tk} {s : AV} (hR : RetS encT 23 h l s h') : ∀ i, objOf s = some i → i = h.length := by
  intro i hi
  rcases hR with ⟨rfl, hl, rfl⟩ | ⟨c, u, rfl, rfl, hc1, hc2⟩
  · cases hi
  · injection hi with hi; exact hi.symm
theorem hp_lt {h : Hp} {i : Nat} {o : AObj} (hi : h[i]? = some o) : i < h.length := by
  rcases Nat.lt_or_ge i h.length with h1 | h1
  · exact h1
  · rw [List.getElem?_eq_none h1] at hi; cases hi
section
variable {v : Int} (h0 : 1 ≤ v) (h1 : v ≤ 200)
include h0 h1
abbrev tA (v : Int) (f o : Bool) : List Tk := [⟨v, f, o, 0⟩]
theorem ck_free : checkE (-1) 0 (tA v true false) = 0 := by
  have : errT ⟨v, true, false, 0⟩ = 0 := errT_0 (by show ¬ (v < 1 ∨ 1099511627776 < v ∨ (0 : Int) < 0 ∨ 1099511627776 < (0 : Int)); omega) (by simp)
  have hj : jobsE (tA v true false) = 0 := by rw [jobsE, if_neg (by simp)]; simp only [tA, errs, this, if_true]
  exact ck3 hj (by simp) rfl rfl
theorem ck_run {d : Int} (hd : 0 ≤ d) (hd1 : d < v) : checkE 0 d (tA v false false) = 0 := by
  have : errT ⟨v, false, false, 0⟩ = 0 := errT_0 (by show ¬ (v < 1 ∨ 1099511627776 < v ∨ (0 : Int) < 0 ∨ 1099511627776 < (0 : Int)); omega) (by simp)
  have hj : jobsE (tA v false false) = 0 := by rw [jobsE, if_neg (by simp)]; simp only [tA, errs, this, if_true]
  exact ck7 hj (by simp) (by omega) (by show ¬ (d < 0 ∨ v ≤ d); omega) rfl rfl
theorem pick_begin : pickP (-1) 0 (tA v true false) false = ⟨0, 0, tA v false false, 1, 0⟩ := by
  rw [pickP, if_neg (by rw [ck_free h0 h1]; simp)]
  have : atF (-1) (tA v true false) = 0 := by simp [atF, fr]
  rw [this, if_neg (by omega), if_neg (by simp), if_pos rfl]; rfl
theorem pick_work {d : Int} (hd : 0 ≤ d) (hd1 : d + 1 < v) : pickP 0 d (tA v false false) false = ⟨0, d + 1, tA v false false, 2, 0⟩ := by
  rw [pickP, if_neg (by rw [ck_run h0 h1 hd (by omega)]; simp)]
  have : atF 0 (tA v false false) = 0 := by simp [atF]
  rw [this, if_neg (by omega), if_neg (by simp), if_neg (by omega), if_neg (by show ¬ (d + 1 = v); omega)]
theorem pick_over {d : Int} (hd : 0 ≤ d) (hd1 : d + 1 = v) : pickP 0 d (tA v false false) false = ⟨-1, 0, tA v false true, 3, 0⟩ := by
  rw [pickP, if_neg (by rw [ck_run h0 h1 hd (by omega)]; simp)]
  have : atF 0 (tA v false false) = 0 := by simp [atF]
  rw [this, if_neg (by omega), if_neg (by simp), if_neg (by omega), if_pos (by show d + 1 = v; exact hd1)]; rfl
theorem left_run {d : Int} (hd : 0 ≤ d) (hd1 : d < v) : leftR 0 d (tA v false false) = .tup [I (v - d), I 0] := by
  simp only [leftR, ck_run h0 h1 hd hd1]; rfl
end
theorem bd_23o (v : Int) : bld Try.prog 23 [(0, I v), (2, B true)] = some (TA ⟨v, false, true, 0⟩) := by kernel_rfl
instance (v : Int) : BD Try.prog 23 [(0, I v), (2, B true)] (TA ⟨v, false, true, 0⟩) := ⟨bd_23o v⟩
theorem ret_one {h h' : Hp} {x : Tk} {s : AV} (hR : RetS encT 23 h [x] s h') : ∃ c u, s = .sl h.length 0 1 c u ∧ h' = h ++ [.cells (encT x) 23 true] := by
  rcases hR with ⟨rfl, hl, rfl⟩ | ⟨c, u, rfl, rfl, hc1, hc2⟩
  · cases hl
  · exact ⟨c, u, rfl, rfl⟩
structure TkB where
  i : Int
  p : Nat
  j : Nat
  c : Nat
  u : Bool
  H : Hp
theorem takes_any (n : Int) : ACalls Try.prog 7 [I n] [] (fun r _ => r = B true) := by
  have m0 := Int.emod_nonneg n (show (200 : Int) ≠ 0 by omega)
  have m1 := Int.emod_lt_of_pos n (show (0 : Int) < 200 by omega)
  have m2 := mod_any n 200 (by omega) (by omega)
  generalize n % 200 = u at *
  have p1 : ∀ X sx (a : TS X sx (tA (1 + u) true false)), ACalls Try.prog 16 [WA (-1) 0, sx, B false] X (fun r h' => ∃ c w, r = .tup [WA 0 0, .sl X.length 0 1 c w, I 1, I 0] ∧ h' = X ++ [.cells (encT ⟨1 + u, false, false, 0⟩) 23 true]) := fun X sx a => (pick_any (-1) 0 false X sx _ a (by simp)).mono fun r h' _ hh => by
    rw [pick_begin (by omega) (by omega)] at hh
    obtain ⟨s', rfl, hR⟩ := hh
    obtain ⟨c, w, rfl, rfl⟩ := ret_one hR
    exact ⟨c, w, rfl, rfl⟩
  have p2 : ∀ d, 0 ≤ d → d + 1 < 1 + u → ∀ X sx (a : TS X sx (tA (1 + u) false false)), ACalls Try.prog 16 [WA 0 d, sx, B false] X (fun r h' => ∃ c w, r = .tup [WA 0 (d + 1), .sl X.length 0 1 c w, I 2, I 0] ∧ h' = X ++ [.cells (encT ⟨1 + u, false, false, 0⟩) 23 true]) := fun d hd hd1 X sx a => (pick_any 0 d false X sx _ a (by simp)).mono fun r h' _ hh => by
    rw [pick_work (by omega) (by omega) hd hd1] at hh
    obtain ⟨s', rfl, hR⟩ := hh
    obtain ⟨c, w, rfl, rfl⟩ := ret_one hR
    exact ⟨c, w, rfl, rfl⟩
  have p3 : ∀ d, 0 ≤ d → d + 1 = 1 + u → ∀ X sx (a : TS X sx (tA (1 + u) false false)), ACalls Try.prog 16 [WA 0 d, sx, B false] X (fun r h' => ∃ c w, r = .tup [WA (-1) 0, .sl X.length 0 1 c w, I 3, I 0] ∧ h' = X ++ [.cells (encT ⟨1 + u, false, true, 0⟩) 23 true]) := fun d hd hd1 X sx a => (pick_any 0 d false X sx _ a (by simp)).mono fun r h' _ hh => by
    rw [pick_over (by omega) (by omega) hd hd1] at hh
    obtain ⟨s', rfl, hR⟩ := hh
    obtain ⟨c, w, rfl, rfl⟩ := ret_one hR
    exact ⟨c, w, rfl, rfl⟩
  have p4 : ∀ d, 0 ≤ d → d < 1 + u → ∀ X sx (a : TS X sx (tA (1 + u) false false)), ACalls Try.prog 23 [WA 0 d, sx] X (fun r h' => r = .tup [I (1 + u - d), I 0] ∧ h' = X) := fun d hd hd1 X sx a => (left_any 0 d X sx _ a (by simp)).mono fun r h' _ hh => by
    rw [left_run (by omega) (by omega) hd hd1] at hh; exact hh
  refine acalls_of_wk hm Try.func7 rfl ?_
  simp only [Try.ntmps7, List.length_cons, List.length_nil, Nat.reduceAdd, Nat.reduceSub, List.reduceReplicate, List.cons_append, List.nil_append]
  show wk _ _ none _ _ ⟨_, []⟩ _
  with_reducible refine s_seq ?_
  with_reducible refine s_reg ?_
  refine sassign ?_
  simp only [pu', p0', c1', c0', i1', z0']
  with_reducible refine s_end ?_
  with_reducible refine s_then ?_
  with_reducible refine s_seq ?_
  with_reducible refine s_reg ?_
  refine sK (hx := rfl) (known_any) ?_
  simp only [pu', p0', c1', c0', i1', z0']
  refine sassign ?_
  simp only [pu', p0', c1', c0', i1', z0']
  with_reducible refine s_end ?_
  with_reducible refine s_then ?_
  with_reducible refine s_seq ?_
  with_reducible refine s_reg ?_
  refine smove ?_
  simp only [pu', p0', c1', c0', i1', z0']
  refine sK (hx := rfl) (m2) ?_
  simp only [pu', p0', c1', c0', i1', z0']
  refine sadd ?_
  simp only [pu', p0', c1', c0', i1', z0']
  refine sassign ?_
  simp only [pu', p0', c1', c0', i1', z0']
  with_reducible refine s_end ?_
  with_reducible refine s_then ?_
  with_reducible refine s_seq ?_
  with_reducible refine s_reg ?_
  refine smove ?_
  simp only [pu', p0', c1', c0', i1', z0']
  refine sK (hx := rfl) (task_ok (1 + u) (by omega) (by omega)) ?_
  simp only [pu', p0', c1', c0', i1', z0']
  refine smove ?_
  simp only [pu', p0', c1', c0', i1', z0']
  refine sext ?_
  simp only [pu', p0', c1', c0', i1', z0']
  refine sext ?_
  simp only [pu', p0', c1', c0', i1', z0']
  refine salloc ?_
  simp only [pu', p0', c1', c0', i1', n0', n3', n1', n2', a2', a1', a0', n4', Nat.reduceAdd, z0', n5', sa0, sa1, sa2, sa3, sa4, sa5, sa6, sa7, sa8, sa9, sa10, sa11]
  refine sstoreF ?_
  simp only [pu', p0', c1', c0', i1', n0', n3', n1', n2', a2', a1', a0', n4', Nat.reduceAdd, z0', n5', sa0, sa1, sa2, sa3, sa4, sa5, sa6, sa7, sa8, sa9, sa10, sa11]
  refine sassign ?_
  simp only [pu', p0', c1', c0', i1', z0']
  with_reducible refine s_end ?_
  with_reducible refine s_then ?_
  with_reducible refine s_seq ?_
  refine s_cut (fun (b : TkB) s' => [I (1 + u), s' 1, s' 2, B true, s' 4, I 0, .ptr b.p 0, .sl b.j 0 1 b.c b.u, I 1, I 0, s' 10, s' 11, s' 12, s' 13, s' 14, s' 15, s' 16, s' 17, s' 18, s' 19, s' 20, s' 21, s' 22, s' 23, s' 24, s' 25, s' 26, s' 27, s' 28, s' 29, s' 30, s' 31, s' 32, s' 33, s' 34, s' 35, s' 36, s' 37, s' 38, s' 39, s' 40, s' 41, s' 42, s' 43, s' 44, s' 45, s' 46, s' 47, s' 48, s' 49, s' 50, s' 51, s' 52, s' 53, s' 54, s' 55, s' 56, s' 57, s' 58, s' 59, s' 60, s' 61, s' 62, s' 63, s' 64, s' 65, s' 66, s' 67, s' 68, s' 69, s' 70, s' 71, s' 72, s' 73, s' 74, s' 75, s' 76, s' 77, s' 78, s' 79, s' 80, s' 81, s' 82, s' 83, s' 84, s' 85, s' 86, s' 87, s' 88, s' 89, s' 90, s' 91, s' 92, s' 93, s' 94, s' 95, s' 96, s' 97, s' 98, s' 99, s' 100, s' 101, s' 102, s' 103, s' 104, s' 105, s' 106, s' 107]) (fun b => b.H) (fun b => b.H[b.p]? = some (.cells [I 0, I 0] 30 true) ∧ b.H[b.j]? = some (.cells (encT ⟨1 + u, false, false, 0⟩) 23 true) ∧ b.p ≠ b.j) ?_ ?_
  · (refine s_regT (id := 4) (.light 1 (.alt 0 [] (.alt 2 [1] (.alt 3 [1] (.light 4 (.light 5 (.light 6 (.light 7 (.light 8 (.alt 9 [1] (.alt 10 [1, 4, 5] (.light 11 (.light 12 (.light 13 (.done)))) (.no)) (.no))))))) (.alt 9 [1] (.alt 3 [1] (.light 4 (.light 5 (.light 6 (.light 7 (.light 8 (.alt 10 [1, 4, 5] (.light 11 (.light 12 (.light 13 (.done)))) (.no))))))) (.no)) (.no))) (.alt 9 [] (.alt 2 [1] (.alt 3 [1] (.light 4 (.light 5 (.light 6 (.light 7 (.light 8 (.alt 10 [1, 4, 5] (.light 11 (.light 12 (.light 13 (.done)))) (.no))))))) (.no)) (.no)) (.no))) (.alt 2 [1] (.alt 0 [1] (.alt 3 [1] (.light 4 (.light 5 (.light 6 (.light 7 (.light 8 (.alt 9 [1] (.alt 10 [1, 4, 5] (.light 11 (.light 12 (.light 13 (.done)))) (.no)) (.no))))))) (.alt 9 [1] (.alt 3 [1] (.light 4 (.light 5 (.light 6 (.light 7 (.light 8 (.alt 10 [1, 4, 5] (.light 11 (.light 12 (.light 13 (.done)))) (.no))))))) (.no)) (.no))) (.alt 9 [1] (.alt 0 [1] (.alt 3 [1] (.light 4 (.light 5 (.light 6 (.light 7 (.light 8 (.alt 10 [1, 4, 5] (.light 11 (.light 12 (.light 13 (.done)))) (.no))))))) (.no)) (.no)) (.no))) (.alt 9 [] (.alt 0 [] (.alt 2 [1] (.alt 3 [1] (.light 4 (.light 5 (.light 6 (.light 7 (.light 8 (.alt 10 [1, 4, 5] (.light 11 (.light 12 (.light 13 (.done)))) (.no))))))) (.no)) (.no)) (.alt 2 [1] (.alt 0 [1] (.alt 3 [1] (.light 4 (.light 5 (.light 6 (.light 7 (.light 8 (.alt 10 [1, 4, 5] (.light 11 (.light 12 (.light 13 (.done)))) (.no))))))) (.no)) (.no)) (.no))) (.no))))) [0, 2, 3, 9, 10] (by kernel_rfl) (by conv => lhs; simp only [pickT, List.getElem?_cons_succ, List.getElem?_cons_zero]) ?_)
    refine tloadW ?_
    simp only [pu', p0', c1', c0', i1', z0']
    with_reducible refine u_both ?_ ?_
    refine uK (hx := rfl) (idle_any) ?_
    simp only [pu', p0', c1', c0', i1', z0']
    with_reducible refine u_both ?_ ?_
    refine ubsl ?_
    simp only [pu', p0', c1', c0', i1', n0', n3', n1', n2', a2', a1', a0', n4', Nat.reduceAdd, z0', n5', sa0, sa1, sa2, sa3, sa4, sa5, sa6, sa7, sa8, sa9, sa10, sa11]
    with_reducible refine u_both ?_ ?_
    refine uC (hx := rfl) ((p1 _ _ (elts_at encT_ok (by infer_instance) (by rfl))).mono ?_)
    rintro _ _ _ ⟨c1, w1, rfl, rfl⟩
    refine ⟨stay_app (by simp), ?_⟩
    simp only [pu', p0', c1', c0', i1', n0', n3', n1', n2', a2', a1', a0', n4', Nat.reduceAdd, z0', n5', sa0, sa1, sa2, sa3, sa4, sa5, sa6, sa7, sa8, sa9, sa10, sa11]
    refine tmove ?_
    simp only [pu', p0', c1', c0', i1', z0']
    refine text ?_
    simp only [pu', p0', c1', c0', i1', z0']
    refine text ?_
    simp only [pu', p0', c1', c0', i1', z0']
    refine text ?_
    simp only [pu', p0', c1', c0', i1', z0']
    refine text ?_
    simp only [pu', p0', c1', c0', i1', z0']
    refine ualloc ?_
    simp only [pu', p0', c1', c0', i1', n0', n3', n1', n2', a2', a1', a0', n4', Nat.reduceAdd, z0', n5', sa0, sa1, sa2, sa3, sa4, sa5, sa6, sa7, sa8, sa9, sa10, sa11]
    refine ustoreF ?_
    simp only [pu', p0', c1', c0', i1', n0', n3', n1', n2', a2', a1', a0', n4', Nat.reduceAdd, z0', n5', sa0, sa1, sa2, sa3, sa4, sa5, sa6, sa7, sa8, sa9, sa10, sa11]
    refine tassign ?_
    simp only [pu', p0', c1', c0', i1', z0']
    refine tassign ?_
    simp only [pu', p0', c1', c0', i1', z0']
    refine tassign ?_
    simp only [pu', p0', c1', c0', i1', z0']
    with_reducible refine t_end ?_
    with_reducible refine s_then ?_
    rotate_left 1
    refine ualloc ?_
    simp only [pu', p0', c1', c0', i1', n0', n3', n1', n2', a2', a1', a0', n4', Nat.reduceAdd, z0', n5', sa0, sa1, sa2, sa3, sa4, sa5, sa6, sa7, sa8, sa9, sa10, sa11]
    refine uC (hx := rfl) ((p1 _ _ (elts_at encT_ok (by infer_instance) (by rfl))).mono ?_)
    rintro _ _ _ ⟨c1, w1, rfl, rfl⟩
    refine ⟨stay_app (by simp), ?_⟩
    simp only [pu', p0', c1', c0', i1', n0', n3', n1', n2', a2', a1', a0', n4', Nat.reduceAdd, z0', n5', sa0, sa1, sa2, sa3, sa4, sa5, sa6, sa7, sa8, sa9, sa10, sa11]
    refine tmove ?_
    simp only [pu', p0', c1', c0', i1', z0']
    refine text ?_
    simp only [pu', p0', c1', c0', i1', z0']
    refine text ?_
    simp only [pu', p0', c1', c0', i1', z0']
    refine text ?_
    simp only [pu', p0', c1', c0', i1', z0']
    refine text ?_
    simp only [pu', p0', c1', c0', i1', z0']
    refine ustoreF ?_
    simp only [pu', p0', c1', c0', i1', n0', n3', n1', n2', a2', a1', a0', n4', Nat.reduceAdd, z0', n5', sa0, sa1, sa2, sa3, sa4, sa5, sa6, sa7, sa8, sa9, sa10, sa11]
    refine tassign ?_
    simp only [pu', p0', c1', c0', i1', z0']
    refine tassign ?_
    simp only [pu', p0', c1', c0', i1', z0']
    refine tassign ?_
    simp only [pu', p0', c1', c0', i1', z0']
    with_reducible refine t_end ?_
    with_reducible refine s_then ?_
    rotate_left 1
    refine ualloc ?_
    simp only [pu', p0', c1', c0', i1', n0', n3', n1', n2', a2', a1', a0', n4', Nat.reduceAdd, z0', n5', sa0, sa1, sa2, sa3, sa4, sa5, sa6, sa7, sa8, sa9, sa10, sa11]
    refine ubsl ?_
    simp only [pu', p0', c1', c0', i1', n0', n3', n1', n2', a2', a1', a0', n4', Nat.reduceAdd, z0', n5', sa0, sa1, sa2, sa3, sa4, sa5, sa6, sa7, sa8, sa9, sa10, sa11]
    refine uC (hx := rfl) ((p1 _ _ (elts_at encT_ok (by infer_instance) (by rfl))).mono ?_)
    rintro _ _ _ ⟨c1, w1, rfl, rfl⟩
    refine ⟨stay_app (by simp), ?_⟩
    simp only [pu', p0', c1', c0', i1', n0', n3', n1', n2', a2', a1', a0', n4', Nat.reduceAdd, z0', n5', sa0, sa1, sa2, sa3, sa4, sa5, sa6, sa7, sa8, sa9, sa10, sa11]
    refine tmove ?_
    simp only [pu', p0', c1', c0', i1', z0']
    refine text ?_
    simp only [pu', p0', c1', c0', i1', z0']
    refine text ?_
    simp only [pu', p0', c1', c0', i1', z0']
    refine text ?_
    simp only [pu', p0', c1', c0', i1', z0']
    refine text ?_
    simp only [pu', p0', c1', c0', i1', z0']
    refine ustoreF ?_
    simp only [pu', p0', c1', c0', i1', n0', n3', n1', n2', a2', a1', a0', n4', Nat.reduceAdd, z0', n5', sa0, sa1, sa2, sa3, sa4, sa5, sa6, sa7, sa8, sa9, sa10, sa11]
    refine tassign ?_
    simp only [pu', p0', c1', c0', i1', z0']
    refine tassign ?_
    simp only [pu', p0', c1', c0', i1', z0']
    refine tassign ?_
    simp only [pu', p0', c1', c0', i1', z0']
    with_reducible refine t_end ?_
    with_reducible refine s_then ?_
    rotate_left 1
    with_reducible refine u_both ?_ ?_
    refine ubsl ?_
    simp only [pu', p0', c1', c0', i1', n0', n3', n1', n2', a2', a1', a0', n4', Nat.reduceAdd, z0', n5', sa0, sa1, sa2, sa3, sa4, sa5, sa6, sa7, sa8, sa9, sa10, sa11]
    with_reducible refine u_both ?_ ?_
    refine uK (hx := rfl) (idle_any) ?_
    simp only [pu', p0', c1', c0', i1', z0']
    with_reducible refine u_both ?_ ?_
    refine uC (hx := rfl) ((p1 _ _ (elts_at encT_ok (by infer_instance) (by rfl))).mono ?_)
    rintro _ _ _ ⟨c1, w1, rfl, rfl⟩
    refine ⟨stay_app (by simp), ?_⟩
    simp only [pu', p0', c1', c0', i1', n0', n3', n1', n2', a2', a1', a0', n4', Nat.reduceAdd, z0', n5', sa0, sa1, sa2, sa3, sa4, sa5, sa6, sa7, sa8, sa9, sa10, sa11]
    refine tmove ?_
    simp only [pu', p0', c1', c0', i1', z0']
    refine text ?_
    simp only [pu', p0', c1', c0', i1', z0']
    refine text ?_
    simp only [pu', p0', c1', c0', i1', z0']
    refine text ?_
    simp only [pu', p0', c1', c0', i1', z0']
    refine text ?_
    simp only [pu', p0', c1', c0', i1', z0']
    refine ualloc ?_
    simp only [pu', p0', c1', c0', i1', n0', n3', n1', n2', a2', a1', a0', n4', Nat.reduceAdd, z0', n5', sa0, sa1, sa2, sa3, sa4, sa5, sa6, sa7, sa8, sa9, sa10, sa11]
    refine ustoreF ?_
    simp only [pu', p0', c1', c0', i1', n0', n3', n1', n2', a2', a1', a0', n4', Nat.reduceAdd, z0', n5', sa0, sa1, sa2, sa3, sa4, sa5, sa6, sa7, sa8, sa9, sa10, sa11]
    refine tassign ?_
    simp only [pu', p0', c1', c0', i1', z0']
    refine tassign ?_
    simp only [pu', p0', c1', c0', i1', z0']
    refine tassign ?_
    simp only [pu', p0', c1', c0', i1', z0']
    with_reducible refine t_end ?_
    with_reducible refine s_then ?_
    rotate_left 1
    refine ualloc ?_
    simp only [pu', p0', c1', c0', i1', n0', n3', n1', n2', a2', a1', a0', n4', Nat.reduceAdd, z0', n5', sa0, sa1, sa2, sa3, sa4, sa5, sa6, sa7, sa8, sa9, sa10, sa11]
    refine uC (hx := rfl) ((p1 _ _ (elts_at encT_ok (by infer_instance) (by rfl))).mono ?_)
    rintro _ _ _ ⟨c1, w1, rfl, rfl⟩
    refine ⟨stay_app (by simp), ?_⟩
    simp only [pu', p0', c1', c0', i1', n0', n3', n1', n2', a2', a1', a0', n4', Nat.reduceAdd, z0', n5', sa0, sa1, sa2, sa3, sa4, sa5, sa6, sa7, sa8, sa9, sa10, sa11]
    refine tmove ?_
    simp only [pu', p0', c1', c0', i1', z0']
    refine text ?_
    simp only [pu', p0', c1', c0', i1', z0']
    refine text ?_
    simp only [pu', p0', c1', c0', i1', z0']
    refine text ?_
    simp only [pu', p0', c1', c0', i1', z0']
    refine text ?_
    simp only [pu', p0', c1', c0', i1', z0']
    refine ustoreF ?_
    simp only [pu', p0', c1', c0', i1', n0', n3', n1', n2', a2', a1', a0', n4', Nat.reduceAdd, z0', n5', sa0, sa1, sa2, sa3, sa4, sa5, sa6, sa7, sa8, sa9, sa10, sa11]
    refine tassign ?_
    simp only [pu', p0', c1', c0', i1', z0']
    refine tassign ?_
    simp only [pu', p0', c1', c0', i1', z0']
    refine tassign ?_
    simp only [pu', p0', c1', c0', i1', z0']
    with_reducible refine t_end ?_
    with_reducible refine s_then ?_
    rotate_left 1
    refine ualloc ?_
    simp only [pu', p0', c1', c0', i1', n0', n3', n1', n2', a2', a1', a0', n4', Nat.reduceAdd, z0', n5', sa0, sa1, sa2, sa3, sa4, sa5, sa6, sa7, sa8, sa9, sa10, sa11]
    refine uK (hx := rfl) (idle_any) ?_
    simp only [pu', p0', c1', c0', i1', z0']
    refine uC (hx := rfl) ((p1 _ _ (elts_at encT_ok (by infer_instance) (by rfl))).mono ?_)
    rintro _ _ _ ⟨c1, w1, rfl, rfl⟩
    refine ⟨stay_app (by simp), ?_⟩
    simp only [pu', p0', c1', c0', i1', n0', n3', n1', n2', a2', a1', a0', n4', Nat.reduceAdd, z0', n5', sa0, sa1, sa2, sa3, sa4, sa5, sa6, sa7, sa8, sa9, sa10, sa11]
    refine tmove ?_
    simp only [pu', p0', c1', c0', i1', z0']
    refine text ?_
    simp only [pu', p0', c1', c0', i1', z0']
    refine text ?_
    simp only [pu', p0', c1', c0', i1', z0']
    refine text ?_
    simp only [pu', p0', c1', c0', i1', z0']
    refine text ?_
    simp only [pu', p0', c1', c0', i1', z0']
    refine ustoreF ?_
    simp only [pu', p0', c1', c0', i1', n0', n3', n1', n2', a2', a1', a0', n4', Nat.reduceAdd, z0', n5', sa0, sa1, sa2, sa3, sa4, sa5, sa6, sa7, sa8, sa9, sa10, sa11]
    refine tassign ?_
    simp only [pu', p0', c1', c0', i1', z0']
    refine tassign ?_
    simp only [pu', p0', c1', c0', i1', z0']
    refine tassign ?_
    simp only [pu', p0', c1', c0', i1', z0']
    with_reducible refine t_end ?_
    with_reducible refine s_then ?_
    rotate_left 1
    refine ualloc ?_
    simp only [pu', p0', c1', c0', i1', n0', n3', n1', n2', a2', a1', a0', n4', Nat.reduceAdd, z0', n5', sa0, sa1, sa2, sa3, sa4, sa5, sa6, sa7, sa8, sa9, sa10, sa11]
    with_reducible refine u_both ?_ ?_
    refine uK (hx := rfl) (idle_any) ?_
    simp only [pu', p0', c1', c0', i1', z0']
    refine ubsl ?_
    simp only [pu', p0', c1', c0', i1', n0', n3', n1', n2', a2', a1', a0', n4', Nat.reduceAdd, z0', n5', sa0, sa1, sa2, sa3, sa4, sa5, sa6, sa7, sa8, sa9, sa10, sa11]
    refine uC (hx := rfl) ((p1 _ _ (elts_at encT_ok (by infer_instance) (by rfl))).mono ?_)
    rintro _ _ _ ⟨c1, w1, rfl, rfl⟩
    refine ⟨stay_app (by simp), ?_⟩
    simp only [pu', p0', c1', c0', i1', n0', n3', n1', n2', a2', a1', a0', n4', Nat.reduceAdd, z0', n5', sa0, sa1, sa2, sa3, sa4, sa5, sa6, sa7, sa8, sa9, sa10, sa11]
    refine tmove ?_
    simp only [pu', p0', c1', c0', i1', z0']
    refine text ?_
    simp only [pu', p0', c1', c0', i1', z0']
    refine text ?_
    simp only [pu', p0', c1', c0', i1', z0']
    refine text ?_
    simp only [pu', p0', c1', c0', i1', z0']
    refine text ?_
    simp only [pu', p0', c1', c0', i1', z0']
    refine ustoreF ?_
    simp only [pu', p0', c1', c0', i1', n0', n3', n1', n2', a2', a1', a0', n4', Nat.reduceAdd, z0', n5', sa0, sa1, sa2, sa3, sa4, sa5, sa6, sa7, sa8, sa9, sa10, sa11]
    refine tassign ?_
    simp only [pu', p0', c1', c0', i1', z0']
    refine tassign ?_
    simp only [pu', p0', c1', c0', i1', z0']
    refine tassign ?_
    simp only [pu', p0', c1', c0', i1', z0']
    with_reducible refine t_end ?_
    with_reducible refine s_then ?_
    rotate_left 1
    refine ubsl ?_
    simp only [pu', p0', c1', c0', i1', n0', n3', n1', n2', a2', a1', a0', n4', Nat.reduceAdd, z0', n5', sa0, sa1, sa2, sa3, sa4, sa5, sa6, sa7, sa8, sa9, sa10, sa11]
    refine uK (hx := rfl) (idle_any) ?_
    simp only [pu', p0', c1', c0', i1', z0']
    refine uC (hx := rfl) ((p1 _ _ (elts_at encT_ok (by infer_instance) (by rfl))).mono ?_)
    rintro _ _ _ ⟨c1, w1, rfl, rfl⟩
    refine ⟨stay_app (by simp), ?_⟩
    simp only [pu', p0', c1', c0', i1', n0', n3', n1', n2', a2', a1', a0', n4', Nat.reduceAdd, z0', n5', sa0, sa1, sa2, sa3, sa4, sa5, sa6, sa7, sa8, sa9, sa10, sa11]
    refine tmove ?_
    simp only [pu', p0', c1', c0', i1', z0']
    refine text ?_
    simp only [pu', p0', c1', c0', i1', z0']
    refine text ?_
    simp only [pu', p0', c1', c0', i1', z0']
    refine text ?_
    simp only [pu', p0', c1', c0', i1', z0']
    refine text ?_
    simp only [pu', p0', c1', c0', i1', z0']
    refine ustoreF ?_
    simp only [pu', p0', c1', c0', i1', n0', n3', n1', n2', a2', a1', a0', n4', Nat.reduceAdd, z0', n5', sa0, sa1, sa2, sa3, sa4, sa5, sa6, sa7, sa8, sa9, sa10, sa11]
    refine tassign ?_
    simp only [pu', p0', c1', c0', i1', z0']
    refine tassign ?_
    simp only [pu', p0', c1', c0', i1', z0']
    refine tassign ?_
    simp only [pu', p0', c1', c0', i1', z0']
    with_reducible refine t_end ?_
    with_reducible refine s_then ?_
    rotate_left 1
    all_goals
      refine at_in ⟨0, _, _, c1, w1, _⟩ ?_ (by rfl) (by rfl)
      exact ⟨by rfl, by rfl, by simp⟩
  rintro ⟨i, p, j, c, w, H⟩ s' ⟨hi, hS, hp⟩
  simp only at hi hS hp ⊢
  with_reducible refine s_seq ?_
  with_reducible refine s_seq ?_
  with_reducible refine s_reg ?_
  refine smove ?_
  simp only [pu', p0', c1', c0', i1', z0']
  refine sNe (fun hb => ?_) (fun hb => ?_)
  replace hb := dT' hb
  (exfalso; omega)
  replace hb := dF' hb
  simp only [pu', p0', c1', c0', i1', z0']
  refine smove ?_
  simp only [pu', p0', c1', c0', i1', z0']
  refine smove ?_
  simp only [pu', p0', c1', c0', i1', z0']
  refine sNe (fun hb => ?_) (fun hb => ?_)
  replace hb := dT' hb
  (exfalso; omega)
  replace hb := dF' hb
  simp only [pu', p0', c1', c0', i1', z0']
  refine spickF ?_
  simp only [pu', p0', c1', c0', i1', z0']
  refine smove ?_
  simp only [pu', p0', c1', c0', i1', z0']
  refine smove ?_
  simp only [pu', p0', c1', c0', i1', z0']
  refine sNe (fun hb => ?_) (fun hb => ?_)
  replace hb := dT' hb
  (exfalso; omega)
  replace hb := dF' hb
  simp only [pu', p0', c1', c0', i1', z0']
  refine spickF ?_
  simp only [pu', p0', c1', c0', i1', z0']
  with_reducible refine s_end ?_
  with_reducible refine s_then ?_
  refine sCF ?_
  with_reducible refine s_skip ?_
  with_reducible refine s_then ?_
  with_reducible refine s_seq ?_
  with_reducible refine s_seq ?_
  with_reducible refine s_reg ?_
  refine sassign ?_
  simp only [pu', p0', c1', c0', i1', z0']
  with_reducible refine s_end ?_
  with_reducible refine s_then ?_
  with_reducible refine s_block ?_
  refine s_loop hm (fun (b : TkB) s' => [I (1 + u), s' 1, s' 2, B true, s' 4, s' 5, .ptr b.p 0, .sl b.j 0 1 b.c b.u, s' 8, s' 9, I b.i, s' 11, s' 12, s' 13, s' 14, s' 15, s' 16, s' 17, s' 18, s' 19, s' 20, s' 21, s' 22, s' 23, s' 24, s' 25, s' 26, s' 27, s' 28, s' 29, s' 30, s' 31, s' 32, s' 33, s' 34, s' 35, s' 36, s' 37, s' 38, s' 39, s' 40, s' 41, s' 42, s' 43, s' 44, s' 45, s' 46, s' 47, s' 48, s' 49, s' 50, s' 51, s' 52, s' 53, s' 54, s' 55, s' 56, s' 57, s' 58, s' 59, s' 60, s' 61, s' 62, s' 63, s' 64, s' 65, s' 66, s' 67, s' 68, s' 69, s' 70, s' 71, s' 72, s' 73, s' 74, s' 75, s' 76, s' 77, s' 78, s' 79, s' 80, s' 81, s' 82, s' 83, s' 84, s' 85, s' 86, s' 87, s' 88, s' 89, s' 90, s' 91, s' 92, s' 93, s' 94, s' 95, s' 96, s' 97, s' 98, s' 99, s' 100, s' 101, s' 102, s' 103, s' 104, s' 105, s' 106, s' 107]) (fun b => b.H) (fun b => b.p ≠ b.j ∧ ((1 ≤ b.i ∧ b.i ≤ 1 + u ∧ b.H[b.p]? = some (.cells [I 0, I (b.i - 1)] 30 true) ∧ b.H[b.j]? = some (.cells (encT ⟨1 + u, false, false, 0⟩) 23 true)) ∨ (b.i = 1 + u + 1 ∧ b.H[b.p]? = some (.cells [I (-1), I 0] 30 true) ∧ b.H[b.j]? = some (.cells (encT ⟨1 + u, false, true, 0⟩) 23 true)))) (fun b => (1 + u + 1 - b.i).toNat) ⟨1, p, j, c, w, H⟩ (by rfl) rfl ⟨hp, .inl ⟨by simp, by simp only []; omega, hi, hS⟩⟩ ?_
  rintro ⟨i, p, j, c, w, H⟩ s' ⟨hp, ⟨h1, h2, h3, h4⟩ | ⟨h1, h3, h4⟩⟩
  · simp only at hp h1 h2 h3 h4 ⊢
    have hpl := hp_lt h3
    have a3 : HA H p (.cells [I 0, I (i - 1)] 30 true) := ⟨h3⟩
    have a4 : HA H j (.cells (encT ⟨1 + u, false, false, 0⟩) 23 true) := ⟨h4⟩
    by_cases hl : i = 1 + u
    · with_reducible refine s_seq ?_
      with_reducible refine s_seq ?_
      with_reducible refine s_reg ?_
      refine smove ?_
      simp only [pu', p0', c1', c0', i1', z0']
      refine smove ?_
      simp only [pu', p0', c1', c0', i1', z0']
      refine sLe (fun hb => ?_) (fun hb => ?_)
      replace hb := dT' hb
      simp only [pu', p0', c1', c0', i1', z0']
      with_reducible refine s_end ?_
      with_reducible refine s_then ?_
      refine sCT ?_
      with_reducible refine s_skip ?_
      with_reducible refine s_then ?_
      with_reducible refine s_seq ?_
      with_reducible refine s_block ?_
      with_reducible refine s_seq ?_
      with_reducible refine s_reg ?_
      refine sloadW ?_
      simp only [pu', p0', c1', c0', i1', z0']
      refine smove ?_
      simp only [pu', p0', c1', c0', i1', z0']
      refine sM (hx := rfl) (p4 _ (by omega) (by omega) _ _ (elts_at encT_ok (by infer_instance) (by rfl))) ?_
      simp only [pu', p0', c1', c0', i1', z0']
      refine smove ?_
      simp only [pu', p0', c1', c0', i1', z0']
      refine sext ?_
      simp only [pu', p0', c1', c0', i1', z0']
      refine sext ?_
      simp only [pu', p0', c1', c0', i1', z0']
      refine sassign ?_
      simp only [pu', p0', c1', c0', i1', z0']
      refine sassign ?_
      simp only [pu', p0', c1', c0', i1', z0']
      with_reducible refine s_end ?_
      with_reducible refine s_then ?_
      with_reducible refine s_seq ?_
      with_reducible refine s_reg ?_
      refine sloadW ?_
      simp only [pu', p0', c1', c0', i1', z0']
      refine smove ?_
      simp only [pu', p0', c1', c0', i1', z0']
      refine sC (hx := rfl) ((p3 _ (by omega) (by omega) _ _ (elts_at encT_ok (by infer_instance) (by rfl))).mono ?_)
      rintro _ _ _ ⟨c1, w1, rfl, rfl⟩
      simp only [pu', p0', c1', c0', i1', n0', n3', n1', n2', a2', a1', a0', n4', Nat.reduceAdd, z0', n5', sa0, sa1, sa2, sa3, sa4, sa5, sa6, sa7, sa8, sa9, sa10, sa11]
      refine smove ?_
      simp only [pu', p0', c1', c0', i1', z0']
      refine sext ?_
      simp only [pu', p0', c1', c0', i1', z0']
      refine sext ?_
      simp only [pu', p0', c1', c0', i1', z0']
      refine sext ?_
      simp only [pu', p0', c1', c0', i1', z0']
      refine sext ?_
      simp only [pu', p0', c1', c0', i1', z0']
      refine salloc ?_
      simp only [pu', p0', c1', c0', i1', n0', n3', n1', n2', a2', a1', a0', n4', Nat.reduceAdd, z0', n5', sa0, sa1, sa2, sa3, sa4, sa5, sa6, sa7, sa8, sa9, sa10, sa11]
      refine sstoreF ?_
      simp only [pu', p0', c1', c0', i1', n0', n3', n1', n2', a2', a1', a0', n4', Nat.reduceAdd, z0', n5', sa0, sa1, sa2, sa3, sa4, sa5, sa6, sa7, sa8, sa9, sa10, sa11]
      refine sassign ?_
      simp only [pu', p0', c1', c0', i1', z0']
      refine sassign ?_
      simp only [pu', p0', c1', c0', i1', z0']
      refine sassign ?_
      simp only [pu', p0', c1', c0', i1', z0']
      with_reducible refine s_end ?_
      with_reducible refine s_then ?_
      with_reducible refine s_seq ?_
      with_reducible refine s_reg ?_
      refine sassign ?_
      simp only [pu', p0', c1', c0', i1', z0']
      with_reducible refine s_end ?_
      with_reducible refine s_then ?_
      with_reducible refine s_seq ?_
      with_reducible refine s_seq ?_
      with_reducible refine s_reg ?_
      refine smove ?_
      simp only [pu', p0', c1', c0', i1', z0']
      refine smove ?_
      simp only [pu', p0', c1', c0', i1', z0']
      refine sEq (fun hb => ?_) (fun hb => ?_)
      replace hb := dT' hb
      simp only [pu', p0', c1', c0', i1', z0']
      with_reducible refine s_end ?_
      with_reducible refine s_then ?_
      refine sCT ?_
      with_reducible refine s_reg ?_
      refine sassign ?_
      simp only [pu', p0', c1', c0', i1', z0']
      with_reducible refine s_end ?_
      with_reducible refine s_then ?_
      with_reducible refine s_seq ?_
      with_reducible refine s_seq ?_
      with_reducible refine s_reg ?_
      refine smove ?_
      simp only [pu', p0', c1', c0', i1', z0']
      refine sNe (fun hb => ?_) (fun hb => ?_)
      replace hb := dT' hb
      (exfalso; omega)
      replace hb := dF' hb
      simp only [pu', p0', c1', c0', i1', z0']
      refine smove ?_
      simp only [pu', p0', c1', c0', i1', z0']
      refine smove ?_
      simp only [pu', p0', c1', c0', i1', z0']
      refine sNe (fun hb => ?_) (fun hb => ?_)
      replace hb := dT' hb
      (exfalso; omega)
      replace hb := dF' hb
      simp only [pu', p0', c1', c0', i1', z0']
      refine spickF ?_
      simp only [pu', p0', c1', c0', i1', z0']
      refine smove ?_
      simp only [pu', p0', c1', c0', i1', z0']
      refine smove ?_
      simp only [pu', p0', c1', c0', i1', z0']
      refine smove ?_
      simp only [pu', p0', c1', c0', i1', z0']
      refine smove ?_
      simp only [pu', p0', c1', c0', i1', z0']
      refine ssub ?_
      simp only [pu', p0', c1', c0', i1', z0']
      refine sadd ?_
      simp only [pu', p0', c1', c0', i1', z0']
      refine sNe (fun hb => ?_) (fun hb => ?_)
      replace hb := dT' hb
      (exfalso; omega)
      replace hb := dF' hb
      simp only [pu', p0', c1', c0', i1', z0']
      refine spickF ?_
      simp only [pu', p0', c1', c0', i1', z0']
      refine smove ?_
      simp only [pu', p0', c1', c0', i1', z0']
      refine smove ?_
      simp only [pu', p0', c1', c0', i1', z0']
      refine smove ?_
      simp only [pu', p0', c1', c0', i1', z0']
      refine sNe (fun hb => ?_) (fun hb => ?_)
      replace hb := dT' hb
      (exfalso; omega)
      replace hb := dF' hb
      simp only [pu', p0', c1', c0', i1', z0']
      refine spickF ?_
      simp only [pu', p0', c1', c0', i1', z0']
      refine smove ?_
      simp only [pu', p0', c1', c0', i1', z0']
      refine smove ?_
      simp only [pu', p0', c1', c0', i1', z0']
      refine slenX ?_
      simp only [pu', p0', c1', c0', i1', z0']
      refine sNe (fun hb => ?_) (fun hb => ?_)
      replace hb := dT' hb
      (exfalso; omega)
      replace hb := dF' hb
      simp only [pu', p0', c1', c0', i1', z0']
      refine spickF ?_
      simp only [pu', p0', c1', c0', i1', z0']
      with_reducible refine s_end ?_
      with_reducible refine s_then ?_
      refine sCF ?_
      with_reducible refine s_skip ?_
      with_reducible refine s_then ?_
      with_reducible refine s_reg ?_
      refine sloadW ?_
      simp only [pu', p0', c1', c0', i1', z0']
      refine smove ?_
      simp only [pu', p0', c1', c0', i1', z0']
      refine sstoreF ?_
      simp only [pu', p0', c1', c0', i1', n0', n3', n1', n2', a2', a1', a0', n4', Nat.reduceAdd, z0', n5', sa0, sa1, sa2, sa3, sa4, sa5, sa6, sa7, sa8, sa9, sa10, sa11]
      refine sassign ?_
      simp only [pu', p0', c1', c0', i1', z0']
      with_reducible refine s_end ?_
      with_reducible refine s_blkN ?_
      with_reducible refine s_then ?_
      with_reducible refine s_reg ?_
      refine smove ?_
      simp only [pu', p0', c1', c0', i1', z0']
      refine sadd ?_
      simp only [pu', p0', c1', c0', i1', z0']
      refine sassign ?_
      simp only [pu', p0', c1', c0', i1', z0']
      with_reducible refine s_end ?_
      rotate_left 1
      replace hb := dF' hb
      exact absurd (by with_reducible assumption) hb
      replace hb := dF' hb
      exact absurd (by with_reducible assumption) hb
      refine l_next ⟨i + 1, p, H.length, c1, w1, _⟩ ?_ ?_ (by rfl) (by rfl)
      · refine ⟨by simp only []; omega, .inr ⟨by simp only []; omega, (List.getElem?_set_self (by simp; omega)).trans rfl, (List.getElem?_set_ne (by simp only []; omega)).trans ga0⟩⟩
      · simp only []; omega
    · with_reducible refine s_seq ?_
      with_reducible refine s_seq ?_
      with_reducible refine s_reg ?_
      refine smove ?_
      simp only [pu', p0', c1', c0', i1', z0']
      refine smove ?_
      simp only [pu', p0', c1', c0', i1', z0']
      refine sLe (fun hb => ?_) (fun hb => ?_)
      replace hb := dT' hb
      simp only [pu', p0', c1', c0', i1', z0']
      with_reducible refine s_end ?_
      with_reducible refine s_then ?_
      refine sCT ?_
      with_reducible refine s_skip ?_
      with_reducible refine s_then ?_
      with_reducible refine s_seq ?_
      with_reducible refine s_block ?_
      with_reducible refine s_seq ?_
      with_reducible refine s_reg ?_
      refine sloadW ?_
      simp only [pu', p0', c1', c0', i1', z0']
      refine smove ?_
      simp only [pu', p0', c1', c0', i1', z0']
      refine sM (hx := rfl) (p4 _ (by omega) (by omega) _ _ (elts_at encT_ok (by infer_instance) (by rfl))) ?_
      simp only [pu', p0', c1', c0', i1', z0']
      refine smove ?_
      simp only [pu', p0', c1', c0', i1', z0']
      refine sext ?_
      simp only [pu', p0', c1', c0', i1', z0']
      refine sext ?_
      simp only [pu', p0', c1', c0', i1', z0']
      refine sassign ?_
      simp only [pu', p0', c1', c0', i1', z0']
      refine sassign ?_
      simp only [pu', p0', c1', c0', i1', z0']
      with_reducible refine s_end ?_
      with_reducible refine s_then ?_
      with_reducible refine s_seq ?_
      with_reducible refine s_reg ?_
      refine sloadW ?_
      simp only [pu', p0', c1', c0', i1', z0']
      refine smove ?_
      simp only [pu', p0', c1', c0', i1', z0']
      refine sC (hx := rfl) ((p2 _ (by omega) (by omega) _ _ (elts_at encT_ok (by infer_instance) (by rfl))).mono ?_)
      rintro _ _ _ ⟨c1, w1, rfl, rfl⟩
      simp only [pu', p0', c1', c0', i1', n0', n3', n1', n2', a2', a1', a0', n4', Nat.reduceAdd, z0', n5', sa0, sa1, sa2, sa3, sa4, sa5, sa6, sa7, sa8, sa9, sa10, sa11]
      refine smove ?_
      simp only [pu', p0', c1', c0', i1', z0']
      refine sext ?_
      simp only [pu', p0', c1', c0', i1', z0']
      refine sext ?_
      simp only [pu', p0', c1', c0', i1', z0']
      refine sext ?_
      simp only [pu', p0', c1', c0', i1', z0']
      refine sext ?_
      simp only [pu', p0', c1', c0', i1', z0']
      refine salloc ?_
      simp only [pu', p0', c1', c0', i1', n0', n3', n1', n2', a2', a1', a0', n4', Nat.reduceAdd, z0', n5', sa0, sa1, sa2, sa3, sa4, sa5, sa6, sa7, sa8, sa9, sa10, sa11]
      refine sstoreF ?_
      simp only [pu', p0', c1', c0', i1', n0', n3', n1', n2', a2', a1', a0', n4', Nat.reduceAdd, z0', n5', sa0, sa1, sa2, sa3, sa4, sa5, sa6, sa7, sa8, sa9, sa10, sa11]
      refine sassign ?_
      simp only [pu', p0', c1', c0', i1', z0']
      refine sassign ?_
      simp only [pu', p0', c1', c0', i1', z0']
      refine sassign ?_
      simp only [pu', p0', c1', c0', i1', z0']
      with_reducible refine s_end ?_
      with_reducible refine s_then ?_
      with_reducible refine s_seq ?_
      with_reducible refine s_reg ?_
      refine sassign ?_
      simp only [pu', p0', c1', c0', i1', z0']
      with_reducible refine s_end ?_
      with_reducible refine s_then ?_
      with_reducible refine s_seq ?_
      with_reducible refine s_seq ?_
      with_reducible refine s_reg ?_
      refine smove ?_
      simp only [pu', p0', c1', c0', i1', z0']
      refine smove ?_
      simp only [pu', p0', c1', c0', i1', z0']
      refine sEq (fun hb => ?_) (fun hb => ?_)
      replace hb := dT' hb
      (exfalso; omega)
      replace hb := dF' hb
      simp only [pu', p0', c1', c0', i1', z0']
      with_reducible refine s_end ?_
      with_reducible refine s_then ?_
      refine sCF ?_
      with_reducible refine s_skip ?_
      with_reducible refine s_then ?_
      with_reducible refine s_seq ?_
      with_reducible refine s_seq ?_
      with_reducible refine s_reg ?_
      refine smove ?_
      simp only [pu', p0', c1', c0', i1', z0']
      refine sNe (fun hb => ?_) (fun hb => ?_)
      replace hb := dT' hb
      (exfalso; omega)
      replace hb := dF' hb
      simp only [pu', p0', c1', c0', i1', z0']
      refine smove ?_
      simp only [pu', p0', c1', c0', i1', z0']
      refine smove ?_
      simp only [pu', p0', c1', c0', i1', z0']
      refine sNe (fun hb => ?_) (fun hb => ?_)
      replace hb := dT' hb
      (exfalso; omega)
      replace hb := dF' hb
      simp only [pu', p0', c1', c0', i1', z0']
      refine spickF ?_
      simp only [pu', p0', c1', c0', i1', z0']
      refine smove ?_
      simp only [pu', p0', c1', c0', i1', z0']
      refine smove ?_
      simp only [pu', p0', c1', c0', i1', z0']
      refine smove ?_
      simp only [pu', p0', c1', c0', i1', z0']
      refine smove ?_
      simp only [pu', p0', c1', c0', i1', z0']
      refine ssub ?_
      simp only [pu', p0', c1', c0', i1', z0']
      refine sadd ?_
      simp only [pu', p0', c1', c0', i1', z0']
      refine sNe (fun hb => ?_) (fun hb => ?_)
      replace hb := dT' hb
      (exfalso; omega)
      replace hb := dF' hb
      simp only [pu', p0', c1', c0', i1', z0']
      refine spickF ?_
      simp only [pu', p0', c1', c0', i1', z0']
      refine smove ?_
      simp only [pu', p0', c1', c0', i1', z0']
      refine smove ?_
      simp only [pu', p0', c1', c0', i1', z0']
      refine smove ?_
      simp only [pu', p0', c1', c0', i1', z0']
      refine sNe (fun hb => ?_) (fun hb => ?_)
      replace hb := dT' hb
      (exfalso; omega)
      replace hb := dF' hb
      simp only [pu', p0', c1', c0', i1', z0']
      refine spickF ?_
      simp only [pu', p0', c1', c0', i1', z0']
      refine smove ?_
      simp only [pu', p0', c1', c0', i1', z0']
      refine smove ?_
      simp only [pu', p0', c1', c0', i1', z0']
      refine slenX ?_
      simp only [pu', p0', c1', c0', i1', z0']
      refine sNe (fun hb => ?_) (fun hb => ?_)
      replace hb := dT' hb
      (exfalso; omega)
      replace hb := dF' hb
      simp only [pu', p0', c1', c0', i1', z0']
      refine spickF ?_
      simp only [pu', p0', c1', c0', i1', z0']
      with_reducible refine s_end ?_
      with_reducible refine s_then ?_
      refine sCF ?_
      with_reducible refine s_skip ?_
      with_reducible refine s_then ?_
      with_reducible refine s_reg ?_
      refine sloadW ?_
      simp only [pu', p0', c1', c0', i1', z0']
      refine smove ?_
      simp only [pu', p0', c1', c0', i1', z0']
      refine sstoreF ?_
      simp only [pu', p0', c1', c0', i1', n0', n3', n1', n2', a2', a1', a0', n4', Nat.reduceAdd, z0', n5', sa0, sa1, sa2, sa3, sa4, sa5, sa6, sa7, sa8, sa9, sa10, sa11]
      refine sassign ?_
      simp only [pu', p0', c1', c0', i1', z0']
      with_reducible refine s_end ?_
      with_reducible refine s_blkN ?_
      with_reducible refine s_then ?_
      with_reducible refine s_reg ?_
      refine smove ?_
      simp only [pu', p0', c1', c0', i1', z0']
      refine sadd ?_
      simp only [pu', p0', c1', c0', i1', z0']
      refine sassign ?_
      simp only [pu', p0', c1', c0', i1', z0']
      with_reducible refine s_end ?_
      rotate_left 1
      replace hb := dF' hb
      exact absurd (by with_reducible assumption) hb
      refine l_next ⟨i + 1, p, H.length, c1, w1, _⟩ ?_ ?_ (by rfl) (by rfl)
      · refine ⟨by simp only []; omega, .inl ⟨by simp only []; omega, by simp only []; omega, (List.getElem?_set_self (by simp; omega)).trans ?_, (List.getElem?_set_ne (by simp only []; omega)).trans ga0⟩⟩
        simp only []
        rw [show i + 1 - 1 = i - 1 + 1 by omega]
      · simp only []; omega
  · simp only at hp h1 h3 h4 ⊢
    subst h1
    have a3 : HA H p (.cells [I (-1), I 0] 30 true) := ⟨h3⟩
    have a4 : HA H j (.cells (encT ⟨1 + u, false, true, 0⟩) 23 true) := ⟨h4⟩
    focus
      with_reducible refine s_seq ?_
      with_reducible refine s_seq ?_
      with_reducible refine s_reg ?_
      refine smove ?_
      simp only [pu', p0', c1', c0', i1', z0']
      refine smove ?_
      simp only [pu', p0', c1', c0', i1', z0']
      refine sLe (fun hb => ?_) (fun hb => ?_)
      replace hb := dT' hb
      (exfalso; omega)
      replace hb := dF' hb
      simp only [pu', p0', c1', c0', i1', z0']
      with_reducible refine s_end ?_
      with_reducible refine s_then ?_
      refine sCF ?_
      with_reducible refine s_exit ?_
      with_reducible refine s_thenE ?_
      with_reducible refine l_exit ?_
      with_reducible refine s_blkE ?_
      with_reducible refine s_then ?_
      with_reducible refine s_seq ?_
      (refine s_regQ (id := 18) [(0, true), (1, true), (2, true), (3, false), (4, true), (5, true), (6, true), (7, true), (8, true), (9, true), (10, true), (11, true), (12, true), (13, true), (14, true)] (by kernel_rfl) (by conv => lhs; simp only [pickO, List.getElem?_cons_succ, List.getElem?_cons_zero]) ?_)
      refine qmove ?_
      simp only [pu', p0', c1', c0', i1', z0']
      refine qmove ?_
      simp only [pu', p0', c1', c0', i1', z0']
      refine qloadW ?_
      simp only [pu', p0', c1', c0', i1', z0']
      refine qK (hx := rfl) (lidle_any) ?_
      simp only [pu', p0', c1', c0', i1', z0']
      refine qbn (fun hb => ?_) (fun hb => ?_)
      simp only [decide_eq_true_eq, Int.toNat_natCast, decide_eq_false_iff_not, Bool.not_eq_true', Bool.not_eq_false', not_true_eq_false, not_false_eq_true, beq_self_eq_true, Bool.and_true, Bool.true_and, Bool.and_false, Bool.false_and, Bool.and_eq_true, Bool.and_eq_false_iff, beq_iff_eq, beq_eq_false_iff_ne, ne_eq, Bool.not_true, Bool.not_false, Bool.true_eq_false, Bool.false_eq_true, Bool.not_eq_true, Bool.not_eq_false, and_true, true_and, and_false, false_and, or_false, false_or, or_true, true_or] at hb
      simp only [pu', p0', c1', c0', i1', z0']
      refine qpickT ?_
      simp only [pu', p0', c1', c0', i1', z0']
      refine qmove ?_
      simp only [pu', p0', c1', c0', i1', z0']
      refine qmove ?_
      simp only [pu', p0', c1', c0', i1', z0']
      refine qidxS ?_
      simp only [pu', p0', c1', c0', i1', z0']
      refine qloadW ?_
      simp only [pu', p0', c1', c0', i1', z0']
      refine qmove ?_
      simp only [pu', p0', c1', c0', i1', z0']
      refine qbuild ?_
      simp only [pu', p0', c1', c0', i1', z0']
      refine qbn (fun hb => ?_) (fun hb => ?_)
      simp only [decide_eq_true_eq, Int.toNat_natCast, decide_eq_false_iff_not, Bool.not_eq_true', Bool.not_eq_false', not_true_eq_false, not_false_eq_true, beq_self_eq_true, Bool.and_true, Bool.true_and, Bool.and_false, Bool.false_and, Bool.and_eq_true, Bool.and_eq_false_iff, beq_iff_eq, beq_eq_false_iff_ne, ne_eq, Bool.not_true, Bool.not_false, Bool.true_eq_false, Bool.false_eq_true, Bool.not_eq_true, Bool.not_eq_false, and_true, true_and, and_false, false_and, or_false, false_or, or_true, true_or] at hb
      simp only [pu', p0', c1', c0', i1', z0']
      refine qpickT ?_
      simp only [pu', p0', c1', c0', i1', z0']
      refine qassign ?_
      simp only [pu', p0', c1', c0', i1', z0']
      with_reducible refine q_end ?_
      with_reducible refine s_then ?_
      with_reducible refine s_ret ?_
      rotate_left 1
      simp only [decide_eq_true_eq, Int.toNat_natCast, decide_eq_false_iff_not, Bool.not_eq_true', Bool.not_eq_false', not_true_eq_false, not_false_eq_true, beq_self_eq_true, Bool.and_true, Bool.true_and, Bool.and_false, Bool.false_and, Bool.and_eq_true, Bool.and_eq_false_iff, beq_iff_eq, beq_eq_false_iff_ne, ne_eq, Bool.not_true, Bool.not_false, Bool.true_eq_false, Bool.false_eq_true, Bool.not_eq_true, Bool.not_eq_false, and_true, true_and, and_false, false_and, or_false, false_or, or_true, true_or] at hb
      simp only [decide_eq_true_eq, Int.toNat_natCast, decide_eq_false_iff_not, Bool.not_eq_true', Bool.not_eq_false', not_true_eq_false, not_false_eq_true, beq_self_eq_true, Bool.and_true, Bool.true_and, Bool.and_false, Bool.false_and, Bool.and_eq_true, Bool.and_eq_false_iff, beq_iff_eq, beq_eq_false_iff_ne, ne_eq, Bool.not_true, Bool.not_false, Bool.true_eq_false, Bool.false_eq_true, Bool.not_eq_true, Bool.not_eq_false, and_true, true_and, and_false, false_and, or_false, false_or, or_true, true_or] at hb
    all_goals try with_reducible refine w_n ?_
    all_goals refine w_1 rfl (by first | exact v_t (by rfl) | exact v_c1 (C1.p) (by rfl) (HA.p) (by rfl) | exact v_cF (CA.p) (by rfl) (HA.p) (by rfl)) ?_
    rfl
end Go.Proofs.Ytfhbbpdnmdbjbaa
