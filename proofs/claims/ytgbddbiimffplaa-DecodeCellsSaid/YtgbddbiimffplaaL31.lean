/-
  A part of the proof of a statement of a chapter's seat; conditions: stated at each theorem.
-/
import Derived.Test.YtgbddbiimffplaaL30
set_option linter.unusedVariables false
set_option linter.unusedSectionVars false
set_option linter.unusedSimpArgs false
set_option linter.unusedVariables false
set_option maxRecDepth 100000
set_option maxHeartbeats 4000000
namespace Go.Proofs.Ytgbddbiimffplaa
open Go.Az Go
/-! ### How often a number occurs -/
def ctI : List Int → Int → Int
  | [], _ => 0
  | x :: r, s => (if x = s then 1 else 0) + ctI r s
theorem ctI_app : ∀ (a b : List Int) (s : Int), ctI (a ++ b) s = ctI a s + ctI b s
  | [], b, s => by simp [ctI]
  | x :: a, b, s => by rw [List.cons_append, ctI, ctI, ctI_app a b s]; omega
theorem ctI_nn : ∀ (l : List Int) (s : Int), 0 ≤ ctI l s
  | [], s => Int.le_refl _
  | x :: l, s => by have := ctI_nn l s; rw [ctI]; split <;> omega
theorem ctI_le : ∀ (l : List Int) (s : Int), ctI l s ≤ l.length
  | [], s => Int.le_refl _
  | x :: l, s => by have := ctI_le l s; rw [ctI, List.length_cons]; push_cast; split <;> omega
theorem ctI_take {l : List Int} {i : Nat} (h : i < l.length) (s : Int) : ctI (l.take (i + 1)) s = ctI (l.take i) s + (if l.getD i 0 = s then 1 else 0) := by
  have e : l.take (i + 1) = l.take i ++ [l.getD i 0] := by
    rw [List.take_add_one, List.getD_eq_getElem?_getD, List.getElem?_eq_getElem h]; rfl
  rw [e, ctI_app]
  simp only [ctI]
  omega
theorem ctI_zero {l : List Int} {s : Int} : s ∉ l → ctI l s = 0 := by
  induction l with
  | nil => intro _; rfl
  | cons x l ih =>
    intro h
    rw [ctI, if_neg (fun e => h (by simp [e])), ih (fun hh => h (by simp [hh]))]; rfl
theorem ctI_rep (n : Nat) (a s : Int) : ctI (List.replicate n a) s = if a = s then n else 0 := by
  induction n with
  | zero => simp [ctI]
  | succ n ih => rw [List.replicate_succ, ctI, ih]; split <;> push_cast <;> omega
theorem ctI_rev : ∀ (l : List Int) (s : Int), ctI l.reverse s = ctI l s
  | [], s => rfl
  | x :: l, s => by rw [List.reverse_cons, ctI_app, ctI_rev l s]; simp only [ctI]; omega
theorem ctI_set : ∀ (l : List Int) (i : Nat) (v s : Int), i < l.length → ctI (l.set i v) s = ctI l s - (if l.getD i 0 = s then 1 else 0) + (if v = s then 1 else 0)
  | [], i, v, s, h => by simp at h
  | x :: l, 0, v, s, h => by simp only [List.set_cons_zero, ctI, List.getD_cons_zero]; omega
  | x :: l, i + 1, v, s, h => by
    simp only [List.set_cons_succ, ctI, List.getD_cons_succ]
    rw [ctI_set l i v s (by simpa using h)]
    omega
theorem ctI_symF : ∀ (l : List Int) (a : Int) (k : Nat), k < l.length → ctI (symF l a) (a + k) = (l.getD k 0).toNat
  | [], a, k, h => by simp at h
  | x :: l, a, 0, h => by
    rw [symF, ctI_app, ctI_rep, if_pos (by omega), ctI_zero (fun hh => by obtain ⟨k, h1, h2, h3⟩ := (symF_mem l (a + 1) _).1 hh; omega)]
    simp
  | x :: l, a, k + 1, h => by
    rw [symF, ctI_app, ctI_rep, if_neg (by omega)]
    have := ctI_symF l (a + 1) k (by simpa using h)
    rw [show a + 1 + (k : Int) = a + ((k + 1 : Nat) : Int) by omega] at this
    rw [this]; simp
theorem ctI_rarF : ∀ (l : List Int) (a : Int) (k : Nat), k < l.length → ctI (rarF l a) (a + k) = if l.getD k 0 = -1 then 1 else 0
  | [], a, k, h => by simp at h
  | x :: l, a, 0, h => by
    have hz : ctI (rarF l (a + 1)) (a + ((0 : Nat) : Int)) = 0 := ctI_zero (fun hh => by obtain ⟨k, h1, h2, h3⟩ := (rarF_mem l (a + 1) _).1 hh; omega)
    rw [rarF]
    by_cases e : x = -1
    · rw [if_pos e, ctI, hz, if_pos (by omega)]; simp [e]
    · rw [if_neg e, hz]; simp [e]
  | x :: l, a, k + 1, h => by
    have ih := ctI_rarF l (a + 1) k (by simpa using h)
    rw [show a + 1 + (k : Int) = a + ((k + 1 : Nat) : Int) by omega] at ih
    rw [rarF, List.getD_cons_succ, ← ih]
    by_cases e : x = -1
    · rw [if_pos e, ctI, if_neg (by omega)]; omega
    · rw [if_neg e]
/-! ### How many cells a symbol has -/
/-- With a number that is no symbol where no symbol stands yet, each cell is told apart. -/
theorem put_ct (m : Nat) (s : Int) (hs : s ≠ -5) : ∀ (cs : List Nat) (ss : List Int) (o : List Int), cs.length = ss.length → cs.Nodup → (∀ c ∈ cs, c < o.length ∧ o.getD c 0 = -5) → ctI (put o cs ss) s = ctI o s + ctI ss s
  | [], [], o, _, _, _ => by simp [put, ctI]
  | [], y :: ss, o, h, _, _ => by simp at h
  | x :: cs, [], o, h, _, _ => by simp at h
  | c :: cs, y :: ss, o, h, hn, ho => by
    rw [List.nodup_cons] at hn
    have hc := ho c (by simp)
    rw [put, put_ct m s hs cs ss (o.set c y) (by simpa using h) hn.2 (fun d hd => ?_), ctI_set _ _ _ _ hc.1, hc.2, if_neg (fun e => hs e.symm), ctI]
    · omega
    · have h1 := ho d (by simp [hd])
      refine ⟨by simpa using h1.1, ?_⟩
      rw [List.getD_eq_getElem?_getD, List.getElem?_set_ne (fun e => hn.1 (by rw [e]; exact hd)), ← List.getD_eq_getElem?_getD]
      exact h1.2
theorem put_same : ∀ (cs : List Nat) (ss : List Int) (o o' : List Int), o.length = o'.length → cs.length = ss.length → (∀ i, i < o.length → i ∉ cs → o.getD i 0 = o'.getD i 0) → put o cs ss = put o' cs ss
  | [], ss, o, o', hl, h, hh => by
    have : o = o' := List.ext_getElem hl fun i h1 h2 => by
      have := hh i h1 (by simp)
      rwa [List.getD_eq_getElem?_getD, List.getD_eq_getElem?_getD, List.getElem?_eq_getElem h1, List.getElem?_eq_getElem h2] at this
    rw [this]
  | c :: cs, [], o, o', hl, h, hh => by simp at h
  | c :: cs, s :: ss, o, o', hl, h, hh => by
    rw [put, put]
    refine put_same cs ss _ _ (by simpa using hl) (by simpa using h) fun i hi hn => ?_
    rw [List.length_set] at hi
    by_cases e : c = i
    · subst e
      rw [List.getD_eq_getElem?_getD, List.getD_eq_getElem?_getD, List.getElem?_set_self hi, List.getElem?_set_self (by omega)]
    · rw [List.getD_eq_getElem?_getD, List.getElem?_set_ne e, List.getD_eq_getElem?_getD, List.getElem?_set_ne e, ← List.getD_eq_getElem?_getD, ← List.getD_eq_getElem?_getD]
      exact hh i hi (by simp only [List.mem_cons]; rintro (h1 | h1) <;> first | exact e h1.symm | exact hn h1)
theorem vis_nodup {z m : Nat} (h : okZ z) : ∀ t, t ≤ z → (vis z m t).Nodup
  | 0, _ => by simp [vis]
  | t + 1, ht => by
    have ih := vis_nodup (m := m) h t (by omega)
    by_cases hp : posN z t < m
    · rw [vis_go hp, List.nodup_append]
      refine ⟨ih, by simp, fun a ha b hb => ?_⟩
      rw [List.mem_singleton] at hb
      subst hb
      exact fun e => vis_new h (by omega) (e ▸ ha)
    · rw [vis_no hp]; exact ih
structure DistOk (z : Nat) (ps : List Int) : Prop where
  okz : okZ z
  ge : ∀ x ∈ ps, -1 ≤ x
  sum : ptsF ps = z
theorem DistOk.split {z : Nat} {ps : List Int} (h : DistOk z ps) : (rarF ps 0).length + (symF ps 0).length = z := by
  have := pts_split ps 0 h.ge
  have := h.sum
  omega
def wantI (p : Int) : Int := if p = -1 then 1 else p
theorem sprd_ct {z : Nat} {ps : List Int} (h : DistOk z ps) (k : Nat) (hk : k < ps.length) : ctI (sprd z ps) k = wantI (ps.getD k 0) := by
  have hs := h.split
  have hv := vis_all h.okz (m := (symF ps 0).length) (by omega)
  have hg := h.ge (ps.getD k 0) (by rw [List.getD_eq_getElem?_getD, List.getElem?_eq_getElem hk]; exact List.getElem_mem hk)
  have e : sprd z ps = put (List.replicate (z - (rarF ps 0).length) (-5) ++ (rarF ps 0).reverse) (vis z (symF ps 0).length z) (symF ps 0) := by
    refine put_same _ _ _ _ (by simp [rarO]) hv fun i hi hn => ?_
    have h1 : ¬ i < (symF ps 0).length := fun hh => hn ((vis_full h.okz (by omega)).2 hh)
    unfold rarO
    rw [List.getD_eq_getElem?_getD, List.getD_eq_getElem?_getD, List.getElem?_append_right (by simp; omega), List.getElem?_append_right (by simp; omega)]
    simp
  rw [e, put_ct (symF ps 0).length k (by omega) _ _ _ hv (vis_nodup h.okz z (Nat.le_refl _)) (fun c hc => ?_), ctI_app, ctI_rep, if_neg (by omega), ctI_rev]
  · have h1 := ctI_symF ps 0 k hk
    have h2 := ctI_rarF ps 0 k hk
    rw [Int.zero_add] at h1 h2
    rw [h1, h2, wantI]
    split <;> omega
  · have := (vis_full h.okz (by omega)).1 hc
    refine ⟨by simp; omega, ?_⟩
    rw [List.getD_eq_getElem?_getD, List.getElem?_append_left (by simp; omega), List.getElem?_replicate, if_pos (by omega)]; rfl
theorem put_mem : ∀ (cs : List Nat) (ss : List Int) (o : List Int) (i : Nat), cs.length = ss.length → i < o.length → (put o cs ss).getD i 0 ∈ ss ∨ (i ∉ cs ∧ (put o cs ss).getD i 0 = o.getD i 0)
  | [], [], o, i, _, _ => .inr ⟨by simp, rfl⟩
  | [], y :: ss, o, i, h, _ => by simp at h
  | x :: cs, [], o, i, h, _ => by simp at h
  | c :: cs, s :: ss, o, i, h, hi => by
    rcases put_mem cs ss (o.set c s) i (by simpa using h) (by simpa using hi) with h1 | ⟨h1, h2⟩
    · left; rw [put]; exact List.mem_cons_of_mem _ h1
    · by_cases e : c = i
      · subst e
        left
        rw [put, h2, List.getD_eq_getElem?_getD, List.getElem?_set_self hi]
        simp
      · right
        refine ⟨by simp only [List.mem_cons]; rintro (h3 | h3) <;> first | exact e h3.symm | exact h1 h3, ?_⟩
        rw [put, h2, List.getD_eq_getElem?_getD, List.getElem?_set_ne e, ← List.getD_eq_getElem?_getD]
/-- The last cells are those of the rare symbols. -/
theorem sprd_rare {z : Nat} {ps : List Int} (h : DistOk z ps) (j : Nat) (hj : j < (rarF ps 0).length) : (sprd z ps).getD (z - 1 - j) 0 = (rarF ps 0).getD j 0 := by
  have hs := h.split
  rw [sprd, put_out _ _ _ _ (fun hh => by have := (vis_full h.okz (by omega)).1 hh; omega)]
  unfold rarO
  rw [List.getD_eq_getElem?_getD, List.getElem?_append_right (by simp; omega), List.length_replicate, List.getElem?_reverse (by omega), List.getD_eq_getElem?_getD]
  congr 2
  omega
/-- Each cell has a symbol that occurs. -/
theorem sprd_sym {z : Nat} {ps : List Int} (h : DistOk z ps) (i : Nat) (hi : i < z) : ∃ k : Nat, k < ps.length ∧ (sprd z ps).getD i 0 = k ∧ ps.getD k 0 ≠ 0 := by
  have hs := h.split
  have hv := vis_all h.okz (m := (symF ps 0).length) (by omega)
  have hl := rarO_len (z := z) (rs := rarF ps 0) (by omega)
  rcases put_mem (vis z (symF ps 0).length z) (symF ps 0) (rarO z (rarF ps 0)) i hv (by omega) with h1 | ⟨h1, h2⟩
  · obtain ⟨k, h3, h4, h5⟩ := (symF_mem _ _ _).1 h1
    exact ⟨k, h3, by rw [sprd, h4]; omega, by omega⟩
  · have h3 : ¬ i < (symF ps 0).length := fun hh => h1 ((vis_full h.okz (by omega)).2 hh)
    have h4 := sprd_rare h (z - 1 - i) (by omega)
    rw [show z - 1 - (z - 1 - i) = i by omega] at h4
    have h5 : (rarF ps 0).getD (z - 1 - i) 0 ∈ rarF ps 0 := by
      rw [List.getD_eq_getElem?_getD, List.getElem?_eq_getElem (by omega)]; exact List.getElem_mem _
    obtain ⟨k, h6, h7, h8⟩ := (rarF_mem _ _ _).1 h5
    exact ⟨k, h6, by rw [h4, h7]; omega, by omega⟩
/-! ### Numbers and bits of cells -/
def baseN (p : Int) : Int := if p < 0 then 1 else p
def tabL (f : Nat → Int) (n : Nat) : List Int := (List.range n).map f
theorem tab_len (f : Nat → Int) (n : Nat) : (tabL f n).length = n := by simp [tabL]
theorem tab_at (f : Nat → Int) {n i : Nat} (h : i < n) : (tabL f n).getD i 0 = f i := by
  rw [tabL, List.getD_eq_getElem?_getD, List.getElem?_map, List.getElem?_range h]; rfl
theorem tab_set (f g : Nat → Int) (n i : Nat) (v : Int) (h1 : ∀ j, j < n → j ≠ i → f j = g j) (h2 : i < n → g i = v) : (tabL f n).set i v = tabL g n := by
  refine List.ext_getElem (by simp [tabL]) fun j a b => ?_
  simp only [List.length_set, tab_len] at a b
  rw [List.getElem_set]
  split
  · rename_i e; subst e; simp only [tabL, List.getElem_map, List.getElem_range]; exact (h2 b).symm
  · rename_i e; simp only [tabL, List.getElem_map, List.getElem_range]; exact h1 j b (fun h => e h.symm)
/-- The number of a cell. -/
def numA (ps l : List Int) (i : Nat) : Int := baseN (ps.getD (l.getD i 0).toNat 0) + ctI (l.take i) (l.getD i 0)
def nums (ps l : List Int) : List Int := tabL (numA ps l) l.length
/-- What the next cell of each symbol gets. -/
def nxtL (ps l : List Int) (i : Nat) : List Int := tabL (fun s => baseN (ps.getD s 0) + ctI (l.take i) s) ps.length
end Go.Proofs.Ytgbddbiimffplaa
