/-
  A part of the proof of a statement of a chapter's seat; conditions: stated at each theorem.
-/
import Derived.Test.YtgbddbiimffplaaN31
set_option linter.unusedVariables false
set_option linter.unusedSectionVars false
set_option linter.unusedSimpArgs false
set_option linter.unusedVariables false
set_option maxRecDepth 100000
set_option maxHeartbeats 8000000
namespace Go.Proofs.Ytgbddbiimffplaa
open Go.Az Go
/-! ### The table of a right distribution is right -/
theorem rarF_ge : ∀ (l : List Int) (a : Int) (j : Nat), j < (rarF l a).length → a ≤ (rarF l a).getD j 0 := by
  intro l a j h
  have h5 : (rarF l a).getD j 0 ∈ rarF l a := by
    rw [List.getD_eq_getElem?_getD, List.getElem?_eq_getElem h]; exact List.getElem_mem _
  obtain ⟨k, h6, h7, h8⟩ := (rarF_mem _ _ _).1 h5
  omega
theorem rarF_asc : ∀ (l : List Int) (a : Int) (j : Nat), j + 1 < (rarF l a).length → (rarF l a).getD j 0 < (rarF l a).getD (j + 1) 0
  | [], a, j, h => by simp [rarF] at h
  | x :: l, a, j, h => by
    rw [rarF] at h ⊢
    by_cases e : x = -1
    · rw [if_pos e] at h ⊢
      rw [List.length_cons] at h
      cases j with
      | zero =>
        rw [List.getD_cons_zero, List.getD_cons_succ]
        have := rarF_ge l (a + 1) 0 (by omega)
        omega
      | succ j =>
        rw [List.getD_cons_succ, List.getD_cons_succ]
        exact rarF_asc l (a + 1) j (by omega)
    · rw [if_neg e] at h ⊢
      exact rarF_asc l (a + 1) j h
theorem hi_two (n : Nat) : hiF (2 ^ n) = n := by
  have h1 : (1 : Int) ≤ 2 ^ n := by have := pow_z n; have := Nat.pow_pos (n := n) (show 0 < 2 by omega); omega
  have h2 := hi_lt (n := (2 : Int) ^ n) (k := n + 1) (by rw [Int.pow_succ]; omega) (by omega)
  have e : hiF ((2 : Int) ^ n) = Nat.log2 ((2 : Int) ^ n).toNat := by unfold hiF; rw [if_neg (by omega)]
  rw [e, show ((2 : Int) ^ n).toNat = 2 ^ n by have := pow_z n; omega, Nat.log2_two_pow]
theorem cnT_ct {t : List Ce} {l : List Int} (hl : t.length = l.length) (hs : ∀ i, i < l.length → syA t i = l.getD i 0 ∧ 0 ≤ l.getD i 0 ∧ l.getD i 0 < 256) : ∀ i, i ≤ l.length → ∀ k : Nat, k < 256 → (cnT t i).getD k 0 = ctI (l.take i) k
  | 0, _, k, hk => by
    rw [cnT, List.getD_eq_getElem?_getD, List.getElem?_replicate, if_pos hk, List.take_zero]; rfl
  | i + 1, hi, k, hk => by
    have ih := cnT_ct hl hs i (by omega) k hk
    obtain ⟨h1, h2, h3⟩ := hs i (by omega)
    rw [cnT, set_get, ctI_take (by omega), cnT_len, h1]
    by_cases e : (l.getD i 0).toNat = k
    · rw [if_pos ⟨e, hk⟩, e, ih, if_pos (by omega)]
    · rw [if_neg (fun hh => e hh.1), if_neg (by omega), ih]; omega
theorem lsT_le {t : List Ce} {m : Nat} : ∀ i, (∀ j, j < i → (syA t j).toNat ≤ m) → lsT t i ≤ m
  | 0, _ => Nat.zero_le _
  | i + 1, h => by
    have h1 := lsT_le i fun j hj => h j (by omega)
    have h2 := h i (by omega)
    rw [lsT]; split <;> omega
theorem low_ex {t : List Ce} {ps : List Int} : ∀ (d j : Nat), d + j = t.length → (∀ i, i < j → okL t ps i) → ∃ n, j ≤ n ∧ LowF t ps n
  | 0, j, h, ho => ⟨j, Nat.le_refl _, by omega, ho, fun hh => by omega⟩
  | d + 1, j, h, ho => by
    by_cases hk : okL t ps j
    · obtain ⟨n, h1, h2⟩ := low_ex (t := t) (ps := ps) d (j + 1) (by omega) fun i hi => by
        by_cases e : i = j
        · rw [e]; exact hk
        · exact ho i (by omega)
      exact ⟨n, by omega, h2⟩
    · exact ⟨j, Nat.le_refl _, ⟨by omega, ho, fun _ => hk⟩⟩
theorem lwK_hit {t : List Ce} {ps : List Int} {x : Nat} (hx : x < ps.length) : ∀ k, (∃ j, j < k ∧ (syA t (t.length - 1 - j)).toNat = x) → (lwK t ps k).getD x 0 = -1
  | 0, ⟨j, h, _⟩ => absurd h (Nat.not_lt_zero _)
  | k + 1, ⟨j, h1, h2⟩ => by
    rw [lwK, set_get, lwK_len]
    by_cases e : j = k
    · subst e; rw [if_pos ⟨h2, hx⟩]
    · split
      · rfl
      · exact lwK_hit hx k ⟨j, by omega, h2⟩
theorem dE_okN {n : Nat} {ps : List Int} (he : dE n ps = 0) : 5 ≤ n ∧ n ≤ 12 ∧ 1 ≤ ps.length ∧ ps.length ≤ 256 ∧ ps.getD (ps.length - 1) 0 ≠ 0 ∧ DistOk (2 ^ n) ps := by
  obtain ⟨n', h1, h2, h3, h4, h5, h6, h7⟩ := dE_ok he
  obtain rfl : n' = n := by omega
  exact ⟨h2, h3, h5, h6, h7, h4⟩
theorem dcQ_is {n : Nat} {ps : List Int} (he : dE n ps = 0) : dcQ n ps = dcd n ps (sprd (2 ^ n) ps) := by
  rw [dcQ, if_pos he, Int.toNat_natCast]
theorem dcQ_n {n : Nat} {ps : List Int} (he : dE n ps = 0) : (dcQ n ps).length = 2 ^ n := by
  rw [dcQ_is he, dcd_len, dist_len rfl (dE_okN he).2.2.2.2.2]
theorem dcQ_cel {n : Nat} {ps : List Int} (he : dE n ps = 0) {i : Nat} (hi : i < 2 ^ n) : (dcQ n ps).getD i ce0 = celA n ps (sprd (2 ^ n) ps) i := by
  rw [dcQ_is he, dcd_at (by rw [dist_len rfl (dE_okN he).2.2.2.2.2]; exact hi)]
theorem dcQ_sy {n : Nat} {ps : List Int} (he : dE n ps = 0) {i : Nat} (hi : i < 2 ^ n) : syA (dcQ n ps) i = (sprd (2 ^ n) ps).getD i 0 := by
  rw [syA, dcQ_cel he hi]; rfl
theorem mem_at {l : List Int} {s : Int} (h : 1 ≤ ctI l s) : ∃ i, i < l.length ∧ l.getD i 0 = s := by
  have hm : s ∈ l := Classical.byContradiction fun hh => by have := ctI_zero hh; omega
  obtain ⟨i, h1, h2⟩ := List.getElem_of_mem hm
  exact ⟨i, h1, by rw [List.getD_eq_getElem?_getD, List.getElem?_eq_getElem h1]; exact h2⟩
theorem chk_right {n : Nat} {ps : List Int} (he : dE n ps = 0) : chkQ (dcQ n ps) = 0 := by
  obtain ⟨h5, h12, hp1, hp2, hlast, hok⟩ := dE_okN he
  have hn := dcQ_n he
  have hll := dist_len rfl hok
  have hsp := hok.split
  have hz := okZ_pos hok.okz
  obtain ⟨l, hl⟩ : ∃ l, l = sprd (2 ^ n) ps := ⟨_, rfl⟩
  obtain ⟨t, ht⟩ : ∃ t, t = dcQ n ps := ⟨_, rfl⟩
  have hlt : t.length = l.length := by rw [ht, hl, hn, hll]
  have hsy : ∀ i, i < l.length → ∃ k : Nat, k < ps.length ∧ syA t i = k ∧ l.getD i 0 = k ∧ ps.getD k 0 ≠ 0 := fun i hi => by
    rw [hl, hll] at hi
    obtain ⟨k, h1, h2, h3⟩ := sprd_sym hok i hi
    exact ⟨k, h1, by rw [ht, dcQ_sy he hi, h2], by rw [hl]; exact h2, h3⟩
  have hs2 : ∀ i, i < l.length → syA t i = l.getD i 0 ∧ 0 ≤ l.getD i 0 ∧ l.getD i 0 < 256 := fun i hi => by
    obtain ⟨k, h1, h2, h3, _⟩ := hsy i hi
    omega
  have hcn : ∀ k : Nat, k < ps.length → (cnT t t.length).getD k 0 = wantI (ps.getD k 0) := fun k hk => by
    rw [cnT_ct hlt hs2 t.length (by omega) k (by omega), hlt, List.take_length, hl, sprd_ct hok k hk]
  have hhi : hiF t.length = n := by
    rw [hlt, hl, hll, show ((2 ^ n : Nat) : Int) = 2 ^ n from (pow_z n).symm]; exact hi_two n
  have hbad : ¬ badS t := by
    rintro ⟨i, hi, hb⟩
    have := hs2 i (by omega)
    omega
  have hlw : lsT t t.length = ps.length - 1 := by
    refine Nat.le_antisymm (lsT_le _ fun j hj => ?_) ?_
    · obtain ⟨k, h1, h2, h3, _⟩ := hsy j (by omega)
      omega
    · have hw := sprd_ct hok (ps.length - 1) (by omega)
      have hge := hok.ge _ (getD_mem (l := ps) (n := ps.length - 1) (by omega))
      obtain ⟨i, h1, h2⟩ := mem_at (l := l) (s := ((ps.length - 1 : Nat) : Int)) (by
        rw [hl, hw, wantI]
        split <;> omega)
      have h3 := lsT_ge t t.length i (by omega)
      have h4 := hs2 i h1
      omega
  have hrs : ∀ j, j < (rarF ps 0).length → syA t (t.length - 1 - j) = (rarF ps 0).getD j 0 := fun j hj => by
    have h1 := sprd_rare hok j hj
    rw [ht, hn, dcQ_sy he (by omega), h1]
  have hrp : ∀ j, j < (rarF ps 0).length → ∃ k : Nat, k < ps.length ∧ (rarF ps 0).getD j 0 = k ∧ ps.getD k 0 = -1 := fun j hj => by
    have h5 : (rarF ps 0).getD j 0 ∈ rarF ps 0 := getD_mem hj
    obtain ⟨k, h6, h7, h8⟩ := (rarF_mem _ _ _).1 h5
    exact ⟨k, h6, by omega, h8⟩
  have hokL : ∀ j, j < (rarF ps 0).length → okL t (cnT t t.length) j := fun j hj => by
    obtain ⟨k, h1, h2, h3⟩ := hrp j hj
    refine ⟨?_, ?_⟩
    · rw [hrs j hj, h2, Int.toNat_natCast, hcn k h1, wantI, if_pos h3]
    · by_cases hj0 : j = 0
      · exact .inl hj0
      · right
        rw [hrs j hj, show t.length - j = t.length - 1 - (j - 1) by omega, hrs (j - 1) (by omega)]
        have := rarF_asc ps 0 (j - 1) (by omega)
        rwa [show j - 1 + 1 = j by omega] at this
  obtain ⟨m, hm, hlow⟩ := low_ex (t := t) (ps := cnT t t.length) (t.length - (rarF ps 0).length) (rarF ps 0).length (by rw [hlt, hl, hll]; omega) hokL
  have htn : t.length = 2 ^ n := by rw [hlt, hl, hll]
  rw [← ht]
  rw [chk_low hbad (by omega) (by rw [hhi, Int.toNat_natCast, hlt, hl, hll]; exact (pow_z n).symm) (by rw [hhi]; omega) (fun hh => by omega) hlow, if_pos]
  refine ⟨(rarF ps 0).length, hm, ?_⟩
  have e : (lwK t (cnT t t.length) (rarF ps 0).length).take (lsT t t.length + 1) = ps := by
    rw [hlw, show ps.length - 1 + 1 = ps.length by omega]
    refine List.ext_getElem (by rw [List.length_take, lwK_len, cnT_len]; omega) fun k h1 h2 => ?_
    rw [List.getElem_take]
    have hk : (lwK t (cnT t t.length) (rarF ps 0).length).getD k 0 = ps.getD k 0 := by
      have hge := hok.ge _ (getD_mem h2)
      by_cases hr : ps.getD k 0 = -1
      · rw [hr]
        refine lwK_hit (by rw [cnT_len]; omega) _ ?_
        have hmem : (k : Int) ∈ rarF ps 0 := (rarF_mem _ _ _).2 ⟨k, h2, by omega, hr⟩
        obtain ⟨j, hj, hj2⟩ := List.getElem_of_mem hmem
        refine ⟨j, hj, ?_⟩
        rw [hrs j hj, List.getD_eq_getElem?_getD, List.getElem?_eq_getElem hj, Option.getD_some, hj2, Int.toNat_natCast]
      · rw [lwK_ne, hcn k h2, wantI, if_neg hr]
        intro j hj e
        obtain ⟨q, q1, q2, q3⟩ := hrp j hj
        rw [hrs j hj, q2, Int.toNat_natCast] at e
        subst e
        exact hr q3
    rw [List.getD_eq_getElem?_getD, List.getD_eq_getElem?_getD, List.getElem?_eq_getElem (by rw [lwK_len, cnT_len]; omega), List.getElem?_eq_getElem h2] at hk
    exact hk
  rw [e, fitQ, hhi]
  rw [Bool.and_eq_true]
  exact ⟨by simp [he], sameC_iff.2 ht.symm⟩
end Go.Proofs.Ytgbddbiimffplaa
