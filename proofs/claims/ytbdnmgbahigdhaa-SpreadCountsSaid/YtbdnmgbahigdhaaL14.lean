/-
  A part of the proof of a statement of a chapter's seat; conditions: stated at each theorem.
-/
import Derived.Test.YtbdnmgbahigdhaaL12
set_option linter.unusedVariables false
set_option linter.unusedSectionVars false
set_option linter.unusedSimpArgs false
set_option linter.unusedVariables false
set_option maxRecDepth 100000
set_option maxHeartbeats 8000000
namespace Go.Proofs.Ytbdnmgbahigdhaa
open Go.Az Go
/-! ### The chapter's examples -/
theorem begins_in {h Y : Hp} {L : List Pc} {z w : AV} {l want : List Int} {last : Int} (S : Sep h Y L) (m : MemW Int L z (encI .i64) 1 3 l) (b : EI Y w want) (hl : l.length = 32) (hw : want.length ≤ 32) (h1 : l.take want.length = want) (h2 : l.getD 31 0 = last) : ACalls Try.prog 25 [z, I 0, I last, w] Y (fun r h' => r = B true ∧ h' = Y) := by
  obtain ⟨k, hk1, hk2⟩ := List.getElem_of_mem m.p
  exact begins25 z w l want last k S (by rw [List.getElem?_eq_getElem hk1, hk2]) b hl hw h1 h2
theorem bs_22_2 (a b : Int) : bslC Try.prog 22 2 [(0, I a), (1, I b)] = some (3, [I a, I b]) := by kernel_rfl
instance (a b : Int) : BS Try.prog 22 2 [(0, I a), (1, I b)] 3 [I a, I b] := ⟨bs_22_2 a b⟩
theorem bs_22_4 (a b c d : Int) : bslC Try.prog 22 4 [(0, I a), (1, I b), (2, I c), (3, I d)] = some (3, [I a, I b, I c, I d]) := by kernel_rfl
instance (a b c d : Int) : BS Try.prog 22 4 [(0, I a), (1, I b), (2, I c), (3, I d)] 3 [I a, I b, I c, I d] := ⟨bs_22_4 a b c d⟩
def shP : List Int := [16, 15, -1]
theorem v1 : cellE 5 shP 2 = 0 := by decide
theorem v2 : cellL 5 shP 2 = [31] := by decide
theorem v3 : cellE 5 shP 1 = 0 := by decide
theorem v4 : firstI 5 shP 1 = 3 := by decide
theorem v5 : cellE 5 shP 3 = 2 := by decide
theorem v6 : cellE 5 [31, -1] 0 = 0 := by decide
theorem v7 : firstI 5 [31, -1] 0 = 0 := by decide
theorem v8 : (numQ 5 shP).length = 32 := by decide
theorem v9 : (numQ 5 shP).take 4 = [16, 17, 18, 15] := by decide
theorem v10 : (numQ 5 shP).getD 31 0 = 1 := by decide
theorem v11 : (bitQ 5 shP).length = 32 := by rw [bitQ, List.length_map, v8]
theorem v12 : (bitQ 5 shP).take 4 = [1, 1, 1, 2] := by
  rw [bitQ, ← List.map_take, v9]; decide +kernel
theorem v13 : (bitQ 5 shP).getD 31 0 = 5 := by
  rw [bit_at (by rw [v8]; decide), v10]; decide +kernel
theorem v14 : dE 5 shP = 0 := by decide
theorem v15 : cellL 5 shP 3 = [] := by decide
theorem law5 (h : Hp) : ACalls Try.prog 5 [] h (fun r h' => r = B true ∧ h' = h) := by
  have S0 := Sep.nil h
  have c6 := step22 6
  rw [show stpR 6 = 43 from by decide, show stpE 6 = 0 from by decide] at c6
  have c4 := step22 4
  rw [show stpR 4 = 0 from by decide, show stpE 4 = 2 from by decide] at c4
  have el3 : ∀ Y i, HA Y i (.cells [I 16, I 15, I (-1)] 3 true) → EI Y (.sl i 0 3 3 false) shP := fun Y i a => mkEL iok 0 (elts_at (l := [16, 15, -1]) iok a rfl)
  have el2 : ∀ Y i, HA Y i (.cells [I 31, I (-1)] 3 true) → EI Y (.sl i 0 2 2 false) [31, -1] := fun Y i a => mkEL iok 0 (elts_at (l := [31, -1]) iok a rfl)
  have el1 : ∀ Y i x, HA Y i (.cells [I x] 3 true) → EI Y (.sl i 0 1 1 false) [x] := fun Y i x a => mkEL iok 0 (elts_at (l := [x]) iok a rfl)
  have el4 : ∀ Y i a b c d, HA Y i (.cells [I a, I b, I c, I d] 3 true) → EI Y (.sl i 0 4 4 false) [a, b, c, d] := fun Y i a b c d x => mkEL iok 0 (elts_at (l := [a, b, c, d]) iok x rfl)
  have a9 : ∀ Y L' s, Sep h Y L' → EI Y s shP → ACalls Try.prog 9 [DA s 5, I 2] Y (fun r h' => ∃ z, r = .tup [z, I 0] ∧ SlC z ∧ Sep h h' (L' ++ [WI z [31]])) := fun Y L' s S a => by
    have := cells9 Y s 5 shP 2 (by decide)
    rw [v1, v2] at this
    exact this.mono fun r h' _ ⟨z, h1, h2, h3⟩ => ⟨z, h1, h2, S.join h3⟩
  have b9 : ∀ Y L' s, Sep h Y L' → EI Y s shP → ACalls Try.prog 9 [DA s 5, I 3] Y (fun r h' => ∃ z, r = .tup [z, I 2] ∧ SlC z ∧ Sep h h' (L' ++ [WI z []])) := fun Y L' s S a => by
    have := cells9 Y s 5 shP 3 (by decide)
    rw [v5, v15] at this
    exact this.mono fun r h' _ ⟨z, h1, h2, h3⟩ => ⟨z, h1, h2, S.join h3⟩
  have a11 : ∀ Y s, EI Y s shP → ACalls Try.prog 11 [DA s 5, I 1] Y (fun r h' => r = .tup [I 3, I 0] ∧ h' = Y) := fun Y s a => by
    have := first11 Y s 5 shP 1 (by decide)
    rwa [v3, v4] at this
  have b11 : ∀ Y s, EI Y s [31, -1] → ACalls Try.prog 11 [DA s 5, I 0] Y (fun r h' => r = .tup [I 0, I 0] ∧ h' = Y) := fun Y s a => by
    have := first11 Y s 5 [31, -1] 0 (by decide)
    rwa [v6, v7] at this
  have c18 : ∀ Y L' s, Sep h Y L' → EI Y s shP → ACalls Try.prog 18 [DA s 5] Y (fun r h' => ∃ z, r = .tup [z, I 0] ∧ SlC z ∧ Sep h h' (L' ++ [WI z (numQ 5 shP)])) := fun Y L' s S a => by
    have := numbers18 Y s 5 shP (by decide)
    rw [v14] at this
    exact this.mono fun r h' _ ⟨z, h1, h2, h3⟩ => ⟨z, h1, h2, S.join h3⟩
  have c20 : ∀ Y L' s, Sep h Y L' → EI Y s shP → ACalls Try.prog 20 [DA s 5] Y (fun r h' => ∃ z, r = .tup [z, I 0] ∧ SlC z ∧ Sep h h' (L' ++ [WI z (bitQ 5 shP)])) := fun Y L' s S a => by
    have := bits20 Y s 5 shP (by decide) (fun _ => by decide)
    rw [v14] at this
    exact this.mono fun r h' _ ⟨z, h1, h2, h3⟩ => ⟨z, h1, h2, S.join h3⟩
  have a25 : ∀ Y L z w, Sep h Y L → MemW Int L z (encI .i64) 1 3 (numQ 5 shP) → EI Y w [16, 17, 18, 15] → ACalls Try.prog 25 [z, I 0, I 1, w] Y (fun r h' => r = B true ∧ h' = Y) := fun Y L z w S m b => begins_in S m b v8 (by decide) v9 v10
  have b25 : ∀ Y L z w, Sep h Y L → MemW Int L z (encI .i64) 1 3 (bitQ 5 shP) → EI Y w [1, 1, 1, 2] → ACalls Try.prog 25 [z, I 0, I 5, w] Y (fun r h' => r = B true ∧ h' = Y) := fun Y L z w S m b => begins_in S m b v11 (by decide) v12 v13
  generalize numQ 5 shP = nl at *
  generalize bitQ 5 shP = bl at *
  generalize shP = sp at *
  refine acalls_back ?_
  refine acalls_of_wk hm Try.func5 rfl ?_
  simp only [Try.ntmps5, List.length_cons, List.length_nil, Nat.reduceAdd, Nat.reduceSub, List.reduceReplicate, List.cons_append, List.nil_append]
  show wk _ _ none _ _ ⟨_, []⟩ _
  focus
    with_reducible refine s_seq ?_
    with_reducible refine s_reg ?_
    refine sassign ?_
    simp only [pu', p0', c1', c0', i1', z0', b8_nat]
    with_reducible refine s_end ?_
    with_reducible refine s_then ?_
    with_reducible refine s_seq ?_
    with_reducible refine s_reg ?_
    refine sK (hx := rfl) (c6) ?_
    simp only [pu', p0', c1', c0', i1', z0', b8_nat]
    refine smove ?_
    simp only [pu', p0', c1', c0', i1', z0', b8_nat]
    refine sext ?_
    simp only [pu', p0', c1', c0', i1', z0', b8_nat]
    refine sext ?_
    simp only [pu', p0', c1', c0', i1', z0', b8_nat]
    refine sassign ?_
    simp only [pu', p0', c1', c0', i1', z0', b8_nat]
    refine sassign ?_
    simp only [pu', p0', c1', c0', i1', z0', b8_nat]
    with_reducible refine s_end ?_
    with_reducible refine s_then ?_
    with_reducible refine s_seq ?_
    with_reducible refine s_reg ?_
    refine sK (hx := rfl) (c4) ?_
    simp only [pu', p0', c1', c0', i1', z0', b8_nat]
    refine smove ?_
    simp only [pu', p0', c1', c0', i1', z0', b8_nat]
    refine sext ?_
    simp only [pu', p0', c1', c0', i1', z0', b8_nat]
    refine sext ?_
    simp only [pu', p0', c1', c0', i1', z0', b8_nat]
    refine sassign ?_
    simp only [pu', p0', c1', c0', i1', z0', b8_nat]
    refine sassign ?_
    simp only [pu', p0', c1', c0', i1', z0', b8_nat]
    with_reducible refine s_end ?_
    with_reducible refine s_then ?_
    with_reducible refine s_seq ?_
    with_reducible refine s_reg ?_
    refine sX (hx := rfl) (shown24 _) ?_
    simp only [pu', p0', c1', c0', i1', n0', n3', n1', n2', a2', a1', a0', n4', Nat.reduceAdd, z0', n5', sa0, sa1, sa2, sa3, sa4, sa5, sa6, sa7, sa8, sa9, sa10, sa11]
    refine sC (hx := rfl) ((a9 _ _ _ inferInstance (el3 _ _ inferInstance)).mono ?_)
    rintro _ m9 _ ⟨z1, rfl, pz1, S1⟩
    simp only [pu', p0', c1', c0', i1', n0', n3', n1', n2', a2', a1', a0', n4', Nat.reduceAdd, z0', n5', sa0, sa1, sa2, sa3, sa4, sa5, sa6, sa7, sa8, sa9, sa10, sa11]
    refine smove ?_
    simp only [pu', p0', c1', c0', i1', z0', b8_nat]
    refine sext ?_
    simp only [pu', p0', c1', c0', i1', z0', b8_nat]
    refine sext ?_
    simp only [pu', p0', c1', c0', i1', z0', b8_nat]
    refine sassign ?_
    simp only [pu', p0', c1', c0', i1', z0', b8_nat]
    refine sassign ?_
    simp only [pu', p0', c1', c0', i1', z0', b8_nat]
    with_reducible refine s_end ?_
    with_reducible refine s_then ?_
    with_reducible refine s_seq ?_
    with_reducible refine s_reg ?_
    refine sX (hx := rfl) (shown24 _) ?_
    simp only [pu', p0', c1', c0', i1', n0', n3', n1', n2', a2', a1', a0', n4', Nat.reduceAdd, z0', n5', sa0, sa1, sa2, sa3, sa4, sa5, sa6, sa7, sa8, sa9, sa10, sa11]
    refine sM (hx := rfl) (a11 _ _ (el3 _ _ inferInstance)) ?_
    simp only [pu', p0', c1', c0', i1', z0', b8_nat]
    refine smove ?_
    simp only [pu', p0', c1', c0', i1', z0', b8_nat]
    refine sext ?_
    simp only [pu', p0', c1', c0', i1', z0', b8_nat]
    refine sext ?_
    simp only [pu', p0', c1', c0', i1', z0', b8_nat]
    refine sassign ?_
    simp only [pu', p0', c1', c0', i1', z0', b8_nat]
    refine sassign ?_
    simp only [pu', p0', c1', c0', i1', z0', b8_nat]
    with_reducible refine s_end ?_
    with_reducible refine s_then ?_
    with_reducible refine s_seq ?_
    with_reducible refine s_reg ?_
    refine sX (hx := rfl) (shown24 _) ?_
    simp only [pu', p0', c1', c0', i1', n0', n3', n1', n2', a2', a1', a0', n4', Nat.reduceAdd, z0', n5', sa0, sa1, sa2, sa3, sa4, sa5, sa6, sa7, sa8, sa9, sa10, sa11]
    refine sC (hx := rfl) ((b9 _ _ _ inferInstance (el3 _ _ inferInstance)).mono ?_)
    rintro _ m9 _ ⟨z2, rfl, pz2, S2⟩
    simp only [pu', p0', c1', c0', i1', n0', n3', n1', n2', a2', a1', a0', n4', Nat.reduceAdd, z0', n5', sa0, sa1, sa2, sa3, sa4, sa5, sa6, sa7, sa8, sa9, sa10, sa11]
    refine smove ?_
    simp only [pu', p0', c1', c0', i1', z0', b8_nat]
    refine sext ?_
    simp only [pu', p0', c1', c0', i1', z0', b8_nat]
    refine sext ?_
    simp only [pu', p0', c1', c0', i1', z0', b8_nat]
    refine sassign ?_
    simp only [pu', p0', c1', c0', i1', z0', b8_nat]
    refine sassign ?_
    simp only [pu', p0', c1', c0', i1', z0', b8_nat]
    with_reducible refine s_end ?_
    with_reducible refine s_then ?_
    with_reducible refine s_seq ?_
    with_reducible refine s_reg ?_
    refine sbsl ?_
    simp only [pu', p0', c1', c0', i1', n0', n3', n1', n2', a2', a1', a0', n4', Nat.reduceAdd, z0', n5', sa0, sa1, sa2, sa3, sa4, sa5, sa6, sa7, sa8, sa9, sa10, sa11]
    refine sbuild ?_
    simp only [pu', p0', c1', c0', i1', z0', b8_nat]
    refine sM (hx := rfl) (b11 _ _ (el2 _ _ inferInstance)) ?_
    simp only [pu', p0', c1', c0', i1', z0', b8_nat]
    refine smove ?_
    simp only [pu', p0', c1', c0', i1', z0', b8_nat]
    refine sext ?_
    simp only [pu', p0', c1', c0', i1', z0', b8_nat]
    refine sext ?_
    simp only [pu', p0', c1', c0', i1', z0', b8_nat]
    refine sassign ?_
    simp only [pu', p0', c1', c0', i1', z0', b8_nat]
    refine sassign ?_
    simp only [pu', p0', c1', c0', i1', z0', b8_nat]
    with_reducible refine s_end ?_
    with_reducible refine s_then ?_
    with_reducible refine s_seq ?_
    with_reducible refine s_reg ?_
    refine sX (hx := rfl) (shown24 _) ?_
    simp only [pu', p0', c1', c0', i1', n0', n3', n1', n2', a2', a1', a0', n4', Nat.reduceAdd, z0', n5', sa0, sa1, sa2, sa3, sa4, sa5, sa6, sa7, sa8, sa9, sa10, sa11]
    refine sC (hx := rfl) ((c18 _ _ _ inferInstance (el3 _ _ inferInstance)).mono ?_)
    rintro _ m18 _ ⟨z3, rfl, pz3, S3⟩
    simp only [pu', p0', c1', c0', i1', n0', n3', n1', n2', a2', a1', a0', n4', Nat.reduceAdd, z0', n5', sa0, sa1, sa2, sa3, sa4, sa5, sa6, sa7, sa8, sa9, sa10, sa11]
    refine smove ?_
    simp only [pu', p0', c1', c0', i1', z0', b8_nat]
    refine sext ?_
    simp only [pu', p0', c1', c0', i1', z0', b8_nat]
    refine sext ?_
    simp only [pu', p0', c1', c0', i1', z0', b8_nat]
    refine sassign ?_
    simp only [pu', p0', c1', c0', i1', z0', b8_nat]
    refine sassign ?_
    simp only [pu', p0', c1', c0', i1', z0', b8_nat]
    with_reducible refine s_end ?_
    with_reducible refine s_then ?_
    with_reducible refine s_seq ?_
    with_reducible refine s_reg ?_
    refine sX (hx := rfl) (shown24 _) ?_
    simp only [pu', p0', c1', c0', i1', n0', n3', n1', n2', a2', a1', a0', n4', Nat.reduceAdd, z0', n5', sa0, sa1, sa2, sa3, sa4, sa5, sa6, sa7, sa8, sa9, sa10, sa11]
    refine sC (hx := rfl) ((c20 _ _ _ inferInstance (el3 _ _ inferInstance)).mono ?_)
    rintro _ m20 _ ⟨z4, rfl, pz4, S4⟩
    simp only [pu', p0', c1', c0', i1', n0', n3', n1', n2', a2', a1', a0', n4', Nat.reduceAdd, z0', n5', sa0, sa1, sa2, sa3, sa4, sa5, sa6, sa7, sa8, sa9, sa10, sa11]
    refine smove ?_
    simp only [pu', p0', c1', c0', i1', z0', b8_nat]
    refine sext ?_
    simp only [pu', p0', c1', c0', i1', z0', b8_nat]
    refine sext ?_
    simp only [pu', p0', c1', c0', i1', z0', b8_nat]
    refine sassign ?_
    simp only [pu', p0', c1', c0', i1', z0', b8_nat]
    refine sassign ?_
    simp only [pu', p0', c1', c0', i1', z0', b8_nat]
    with_reducible refine s_end ?_
    with_reducible refine s_then ?_
    with_reducible refine s_seq ?_
    with_reducible refine s_reg ?_
    refine sM (hx := rfl) (awake8 _) ?_
    simp only [pu', p0', c1', c0', i1', z0', b8_nat]
    refine smove ?_
    simp only [pu', p0', c1', c0', i1', z0', b8_nat]
    refine smove ?_
    simp only [pu', p0', c1', c0', i1', z0', b8_nat]
    refine sEq (fun hb => ?_) (fun hb => ?_)
    replace hb := dT' hb
    simp only [pu', p0', c1', c0', i1', z0', b8_nat]
    refine spickT ?_
    simp only [pu', p0', c1', c0', i1', z0', b8_nat]
    refine smove ?_
    simp only [pu', p0', c1', c0', i1', z0', b8_nat]
    refine smove ?_
    simp only [pu', p0', c1', c0', i1', z0', b8_nat]
    refine sEq (fun hb => ?_) (fun hb => ?_)
    replace hb := dT' hb
    simp only [pu', p0', c1', c0', i1', z0', b8_nat]
    refine spickT ?_
    simp only [pu', p0', c1', c0', i1', z0', b8_nat]
    refine smove ?_
    simp only [pu', p0', c1', c0', i1', z0', b8_nat]
    refine smove ?_
    simp only [pu', p0', c1', c0', i1', z0', b8_nat]
    refine sEq (fun hb => ?_) (fun hb => ?_)
    replace hb := dT' hb
    simp only [pu', p0', c1', c0', i1', z0', b8_nat]
    refine spickT ?_
    simp only [pu', p0', c1', c0', i1', z0', b8_nat]
    refine smove ?_
    simp only [pu', p0', c1', c0', i1', z0', b8_nat]
    refine smove ?_
    simp only [pu', p0', c1', c0', i1', z0', b8_nat]
    refine sEq (fun hb => ?_) (fun hb => ?_)
    replace hb := dT' hb
    simp only [pu', p0', c1', c0', i1', z0', b8_nat]
    refine spickT ?_
    simp only [pu', p0', c1', c0', i1', z0', b8_nat]
    refine smove ?_
    simp only [pu', p0', c1', c0', i1', z0', b8_nat]
    refine smove ?_
    simp only [pu', p0', c1', c0', i1', z0', b8_nat]
    refine sbsl ?_
    simp only [pu', p0', c1', c0', i1', n0', n3', n1', n2', a2', a1', a0', n4', Nat.reduceAdd, z0', n5', sa0, sa1, sa2, sa3, sa4, sa5, sa6, sa7, sa8, sa9, sa10, sa11]
    refine sM (hx := rfl) (sameI_el (s1 := z1) (l := [31]) (b := el1 _ _ _ inferInstance) (by decide)) ?_
    simp only [pu', p0', c1', c0', i1', z0', b8_nat]
    refine spickT ?_
    simp only [pu', p0', c1', c0', i1', z0', b8_nat]
    refine smove ?_
    simp only [pu', p0', c1', c0', i1', z0', b8_nat]
    refine smove ?_
    simp only [pu', p0', c1', c0', i1', z0', b8_nat]
    refine sEq (fun hb => ?_) (fun hb => ?_)
    replace hb := dT' hb
    simp only [pu', p0', c1', c0', i1', z0', b8_nat]
    refine spickT ?_
    simp only [pu', p0', c1', c0', i1', z0', b8_nat]
    refine smove ?_
    simp only [pu', p0', c1', c0', i1', z0', b8_nat]
    refine smove ?_
    simp only [pu', p0', c1', c0', i1', z0', b8_nat]
    refine sEq (fun hb => ?_) (fun hb => ?_)
    replace hb := dT' hb
    simp only [pu', p0', c1', c0', i1', z0', b8_nat]
    refine spickT ?_
    simp only [pu', p0', c1', c0', i1', z0', b8_nat]
    refine smove ?_
    simp only [pu', p0', c1', c0', i1', z0', b8_nat]
    refine smove ?_
    simp only [pu', p0', c1', c0', i1', z0', b8_nat]
    refine sEq (fun hb => ?_) (fun hb => ?_)
    replace hb := dT' hb
    simp only [pu', p0', c1', c0', i1', z0', b8_nat]
    refine spickT ?_
    simp only [pu', p0', c1', c0', i1', z0', b8_nat]
    refine smove ?_
    simp only [pu', p0', c1', c0', i1', z0', b8_nat]
    refine smove ?_
    simp only [pu', p0', c1', c0', i1', z0', b8_nat]
    refine sEq (fun hb => ?_) (fun hb => ?_)
    replace hb := dT' hb
    simp only [pu', p0', c1', c0', i1', z0', b8_nat]
    refine spickT ?_
    simp only [pu', p0', c1', c0', i1', z0', b8_nat]
    refine smove ?_
    simp only [pu', p0', c1', c0', i1', z0', b8_nat]
    refine smove ?_
    simp only [pu', p0', c1', c0', i1', z0', b8_nat]
    refine sEq (fun hb => ?_) (fun hb => ?_)
    replace hb := dT' hb
    simp only [pu', p0', c1', c0', i1', z0', b8_nat]
    refine spickT ?_
    simp only [pu', p0', c1', c0', i1', z0', b8_nat]
    refine smove ?_
    simp only [pu', p0', c1', c0', i1', z0', b8_nat]
    refine smove ?_
    simp only [pu', p0', c1', c0', i1', z0', b8_nat]
    refine smove ?_
    simp only [pu', p0', c1', c0', i1', z0', b8_nat]
    refine sbsl ?_
    simp only [pu', p0', c1', c0', i1', n0', n3', n1', n2', a2', a1', a0', n4', Nat.reduceAdd, z0', n5', sa0, sa1, sa2, sa3, sa4, sa5, sa6, sa7, sa8, sa9, sa10, sa11]
    refine sM (hx := rfl) (a25 _ _ _ _ inferInstance ⟨List.mem_of_getElem? (i := 11) rfl⟩ (el4 _ _ _ _ _ _ inferInstance)) ?_
    simp only [pu', p0', c1', c0', i1', z0', b8_nat]
    refine spickT ?_
    simp only [pu', p0', c1', c0', i1', z0', b8_nat]
    refine smove ?_
    simp only [pu', p0', c1', c0', i1', z0', b8_nat]
    refine smove ?_
    simp only [pu', p0', c1', c0', i1', z0', b8_nat]
    refine smove ?_
    simp only [pu', p0', c1', c0', i1', z0', b8_nat]
    refine sbsl ?_
    simp only [pu', p0', c1', c0', i1', n0', n3', n1', n2', a2', a1', a0', n4', Nat.reduceAdd, z0', n5', sa0, sa1, sa2, sa3, sa4, sa5, sa6, sa7, sa8, sa9, sa10, sa11]
    refine sM (hx := rfl) (b25 _ _ _ _ inferInstance ⟨List.mem_of_getElem? (i := 14) rfl⟩ (el4 _ _ _ _ _ _ inferInstance)) ?_
    simp only [pu', p0', c1', c0', i1', z0', b8_nat]
    refine spickT ?_
    simp only [pu', p0', c1', c0', i1', z0', b8_nat]
    refine sassign ?_
    simp only [pu', p0', c1', c0', i1', z0', b8_nat]
    with_reducible refine s_end ?_
    with_reducible refine s_then ?_
    with_reducible refine s_ret ?_
    rotate_left 1
    replace hb := dF' hb
    exact absurd rfl hb
    replace hb := dF' hb
    exact absurd rfl hb
    replace hb := dF' hb
    exact absurd rfl hb
    replace hb := dF' hb
    exact absurd rfl hb
    replace hb := dF' hb
    exact absurd rfl hb
    replace hb := dF' hb
    exact absurd rfl hb
    replace hb := dF' hb
    exact absurd rfl hb
    replace hb := dF' hb
    exact absurd rfl hb
    replace hb := dF' hb
    exact absurd rfl hb
  all_goals
    all_goals try with_reducible refine w_n ?_
    all_goals refine w_1 rfl (by first | exact v_t (by rfl) | exact v_c1 (C1.p) (by rfl) (HA.p) (by rfl) | exact v_cF (CA.p) (by rfl) (HA.p) (by rfl)) ?_
    exact ⟨rfl, Sep.ext, rfl, trivial⟩
theorem law5k : ACalls Try.prog 5 [] [] (fun r _ => r = B true) := (law5 []).mono fun r h' _ hh => hh.1
end Go.Proofs.Ytbdnmgbahigdhaa
