/-
  A part of the proof of a statement of a chapter's seat; conditions: stated at each theorem.
-/
import Derived.Test.YtgbddbiimffplaaAzR
set_option linter.unusedVariables false
set_option linter.unusedSectionVars false
set_option linter.unusedSimpArgs false
set_option linter.unusedVariables false
set_option maxRecDepth 100000
set_option maxHeartbeats 4000000
namespace Go.Proofs.Ytgbddbiimffplaa
open Go.Az Go
/-! ### Sums over numbers below a bound -/
def smN (f : Nat → Nat) : Nat → Nat
  | 0 => 0
  | n + 1 => smN f n + f n
theorem smN_congr {f g : Nat → Nat} : ∀ {n : Nat}, (∀ i, i < n → f i = g i) → smN f n = smN g n
  | 0, _ => rfl
  | n + 1, h => by rw [smN, smN, smN_congr (fun i hi => h i (by omega)), h n (by omega)]
theorem smN_zero : ∀ n, smN (fun _ => 0) n = 0
  | 0 => rfl
  | n + 1 => by rw [smN, smN_zero n]
theorem smN_add (f g : Nat → Nat) : ∀ n, smN (fun i => f i + g i) n = smN f n + smN g n
  | 0 => rfl
  | n + 1 => by simp only [smN]; rw [smN_add f g n]; omega
theorem smN_delta (a v : Nat) : ∀ n, smN (fun i => if i = a then v else 0) n = if a < n then v else 0
  | 0 => rfl
  | n + 1 => by
    rw [smN, smN_delta a v n]
    by_cases h : n = a
    · rw [if_pos h, if_neg (by omega), if_pos (by omega)]; omega
    · rw [if_neg h]
      by_cases h2 : a < n
      · rw [if_pos h2, if_pos (by omega), Nat.add_zero]
      · rw [if_neg h2, if_neg (by omega)]
theorem smN_swap (f : Nat → Nat → Nat) (m : Nat) : ∀ n, smN (fun i => smN (f i) m) n = smN (fun j => smN (fun i => f i j) n) m
  | 0 => by simp only [smN]; exact (smN_zero m).symm
  | n + 1 => by simp only [smN]; rw [smN_swap f m n, ← smN_add]
theorem smN_bij {p g : Nat → Nat} {z : Nat} (hp : ∀ t, t < z → p t < z) (hg : ∀ c, c < z → g c < z) (h : ∀ t c, t < z → c < z → (p t = c ↔ t = g c)) (w : Nat → Nat) : smN (fun t => w (p t)) z = smN w z := by
  have e1 : smN (fun t => w (p t)) z = smN (fun t => smN (fun c => if c = p t then w c else 0) z) z := by
    refine smN_congr fun t ht => ?_
    have e : smN (fun c => if c = p t then w c else 0) z = smN (fun c => if c = p t then w (p t) else 0) z := smN_congr fun c _ => by
      by_cases h : c = p t
      · rw [if_pos h, if_pos h, h]
      · rw [if_neg h, if_neg h]
    rw [e, smN_delta, if_pos (hp t ht)]
  rw [e1, smN_swap]
  refine smN_congr fun c hc => ?_
  have e : smN (fun t => if c = p t then w c else 0) z = smN (fun t => if t = g c then w c else 0) z := smN_congr fun t ht => by
    by_cases h1 : t = g c
    · rw [if_pos h1, if_pos ((h t c ht hc).2 h1).symm]
    · rw [if_neg h1, if_neg (fun h2 => h1 ((h t c ht hc).1 h2.symm))]
  rw [e, smN_delta, if_pos (hg c hc)]
theorem smN_lt (m : Nat) : ∀ z, smN (fun c => if c < m then 1 else 0) z = min m z
  | 0 => by simp [smN]
  | z + 1 => by
    rw [smN, smN_lt m z]
    by_cases h : z < m
    · rw [if_pos h]; omega
    · rw [if_neg h]; omega
theorem smN_mono (f : Nat → Nat) : ∀ {a b : Nat}, a ≤ b → smN f a ≤ smN f b
  | a, 0, h => by rw [show a = 0 by omega]; exact Nat.le_refl _
  | a, b + 1, h => by
    by_cases he : a = b + 1
    · rw [he]; exact Nat.le_refl _
    · have := smN_mono f (a := a) (b := b) (by omega)
      rw [smN]; omega
/-! ### The step leads through all cells -/
def stpN (z : Nat) : Nat := z / 2 + z / 8 + 3
def stI (z : Nat) : Nat := if z = 32 then 7 else if z = 64 then 3 else if z = 128 then 91 else if z = 256 then 11 else if z = 512 then 363 else if z = 1024 then 43 else if z = 2048 then 1451 else 171
def okZ (z : Nat) : Prop := z = 32 ∨ z = 64 ∨ z = 128 ∨ z = 256 ∨ z = 512 ∨ z = 1024 ∨ z = 2048 ∨ z = 4096
theorem okZ_inv {z : Nat} (h : okZ z) : stpN z * stI z % z = 1 := by
  rcases h with h | h | h | h | h | h | h | h <;> subst h <;> rfl
theorem okZ_pos {z : Nat} (h : okZ z) : 32 ≤ z ∧ z ≤ 4096 := by
  rcases h with h | h | h | h | h | h | h | h <;> subst h <;> omega
theorem okZ_of {L : Nat} (h1 : 5 ≤ L) (h2 : L ≤ 12) : okZ (2 ^ L) := by
  have : L = 5 ∨ L = 6 ∨ L = 7 ∨ L = 8 ∨ L = 9 ∨ L = 10 ∨ L = 11 ∨ L = 12 := by omega
  rcases this with h | h | h | h | h | h | h | h <;> subst h <;> (unfold okZ; decide)
def posN (z t : Nat) : Nat := t * stpN z % z
theorem pos_lt {z : Nat} (h : okZ z) (t : Nat) : posN z t < z := Nat.mod_lt _ (by have := okZ_pos h; omega)
theorem pos_zero (z : Nat) : posN z 0 = 0 := by simp [posN]
theorem pos_end (z : Nat) : posN z z = 0 := by simp [posN]
theorem pos_succ (z t : Nat) : posN z (t + 1) = (posN z t + stpN z) % z := by
  unfold posN
  rw [Nat.add_mul, Nat.one_mul, Nat.mod_add_mod]
theorem pos_iff {z : Nat} (h : okZ z) {t c : Nat} (ht : t < z) (hc : c < z) : posN z t = c ↔ t = c * stI z % z := by
  have h1 := okZ_inv h
  have hz := okZ_pos h
  have key : ∀ a : Nat, a < z → a * (stpN z * stI z) % z = a := fun a ha => by
    rw [Nat.mul_mod, h1, Nat.mul_one, Nat.mod_mod, Nat.mod_eq_of_lt ha]
  unfold posN
  constructor
  · intro e
    rw [← e, Nat.mod_mul_mod, Nat.mul_assoc, key t ht]
  · intro e
    rw [e, Nat.mod_mul_mod, Nat.mul_assoc, Nat.mul_comm (stI z), key c hc]
theorem pos_inj {z : Nat} (h : okZ z) {t u : Nat} (ht : t < z) (hu : u < z) (e : posN z t = posN z u) : t = u := by
  have h1 := (pos_iff h ht (pos_lt h u)).1 e
  have h2 := (pos_iff h hu (pos_lt h u)).1 rfl
  omega
theorem pos_sum {z : Nat} (h : okZ z) (w : Nat → Nat) : smN (fun t => w (posN z t)) z = smN w z :=
  smN_bij (g := fun c => c * stI z % z) (fun t _ => pos_lt h t) (fun c _ => Nat.mod_lt _ (by have := okZ_pos h; omega)) (fun t c ht hc => pos_iff h ht hc) w
/-- The free cells in the order in which they are given. -/
def vis (z m : Nat) : Nat → List Nat
  | 0 => []
  | t + 1 => if posN z t < m then vis z m t ++ [posN z t] else vis z m t
theorem vis_go {z m t : Nat} (h : posN z t < m) : vis z m (t + 1) = vis z m t ++ [posN z t] := if_pos h
theorem vis_no {z m t : Nat} (h : ¬ posN z t < m) : vis z m (t + 1) = vis z m t := if_neg h
theorem vis_len (z m : Nat) : ∀ t, (vis z m t).length = smN (fun i => if posN z i < m then 1 else 0) t
  | 0 => rfl
  | t + 1 => by
    rw [smN, ← vis_len z m t]
    by_cases h : posN z t < m
    · rw [vis_go h, if_pos h, List.length_append]; rfl
    · rw [vis_no h, if_neg h]; rfl
theorem vis_all {z m : Nat} (h : okZ z) (hm : m ≤ z) : (vis z m z).length = m := by
  rw [vis_len, pos_sum h (fun c => if c < m then 1 else 0), smN_lt]; omega
theorem vis_mono {z m : Nat} {a b : Nat} (hab : a ≤ b) : (vis z m a).length ≤ (vis z m b).length := by
  rw [vis_len, vis_len]; exact smN_mono _ hab
theorem vis_lt {z m t : Nat} (h : okZ z) (hm : m ≤ z) (ht : t ≤ z) (hk : (vis z m t).length < m) : t < z := by
  have := vis_all h hm
  by_cases e : t = z
  · subst e; omega
  · omega
theorem vis_more {z m t : Nat} (h : okZ z) (hm : m ≤ z) (ht : t < z) (hp : posN z t < m) : (vis z m t).length < m := by
  have h1 := vis_all h hm
  have h2 := vis_mono (z := z) (m := m) (show t + 1 ≤ z by omega)
  rw [vis_go hp, List.length_append] at h2
  simp only [List.length_cons, List.length_nil] at h2
  omega
theorem vis_mem {z m : Nat} : ∀ {t c : Nat}, c ∈ vis z m t ↔ c < m ∧ ∃ i, i < t ∧ posN z i = c
  | 0, c => by simp [vis]
  | t + 1, c => by
    have ih := vis_mem (z := z) (m := m) (t := t) (c := c)
    have aux : (∃ i, i < t + 1 ∧ posN z i = c) ↔ (∃ i, i < t ∧ posN z i = c) ∨ posN z t = c := by
      constructor
      · rintro ⟨i, h1, h2⟩
        by_cases e : i = t
        · subst e; exact .inr h2
        · exact .inl ⟨i, by omega, h2⟩
      · rintro (⟨i, h1, h2⟩ | h)
        · exact ⟨i, by omega, h2⟩
        · exact ⟨t, by omega, h⟩
    by_cases h : posN z t < m
    · rw [vis_go h, List.mem_append, ih, aux, List.mem_singleton]
      constructor
      · rintro (⟨h1, h2⟩ | h1)
        · exact ⟨h1, .inl h2⟩
        · exact ⟨by omega, .inr h1.symm⟩
      · rintro ⟨h1, h2 | h2⟩
        · exact .inl ⟨h1, h2⟩
        · exact .inr h2.symm
    · rw [vis_no h, ih, aux]
      constructor
      · rintro ⟨h1, h2⟩; exact ⟨h1, .inl h2⟩
      · rintro ⟨h1, h2 | h2⟩
        · exact ⟨h1, h2⟩
        · omega
/-- All free cells are given, each once. -/
theorem vis_full {z m : Nat} (h : okZ z) (hm : m ≤ z) {c : Nat} : c ∈ vis z m z ↔ c < m := by
  rw [vis_mem]
  refine ⟨fun hh => hh.1, fun hc => ⟨hc, c * stI z % z, Nat.mod_lt _ (by have := okZ_pos h; omega), ?_⟩⟩
  exact (pos_iff h (Nat.mod_lt _ (by have := okZ_pos h; omega)) (by omega)).2 rfl
theorem vis_new {z m t : Nat} (h : okZ z) (ht : t < z) : posN z t ∉ vis z m t := by
  intro hh
  obtain ⟨_, i, h1, h2⟩ := vis_mem.1 hh
  have := pos_inj h (show i < z by omega) ht h2
  omega
/-! ### Symbols -/
/-- The symbols, each as often as its probability says. -/
def symF : List Int → Int → List Int
  | [], _ => []
  | p :: r, s => List.replicate p.toNat s ++ symF r (s + 1)
/-- The symbols with the probability -1. -/
def rarF : List Int → Int → List Int
  | [], _ => []
  | p :: r, s => if p = -1 then s :: rarF r (s + 1) else rarF r (s + 1)
theorem symF_take : ∀ (l : List Int) (a : Int) (i : Nat), i < l.length → symF (l.take (i + 1)) a = symF (l.take i) a ++ List.replicate (l.getD i 0).toNat (a + i)
  | [], a, i, h => by simp at h
  | x :: l, a, 0, h => by simp [symF]
  | x :: l, a, i + 1, h => by
    have := symF_take l (a + 1) i (by simpa using h)
    simp only [List.take_succ_cons, symF, List.getD_cons_succ] at this ⊢
    rw [this, List.append_assoc, show a + 1 + (i : Int) = a + ((i + 1 : Nat) : Int) by omega]
theorem rarF_take : ∀ (l : List Int) (a : Int) (i : Nat), i < l.length → rarF (l.take (i + 1)) a = rarF (l.take i) a ++ (if l.getD i 0 = -1 then [a + i] else [])
  | [], a, i, h => by simp at h
  | x :: l, a, 0, h => by simp [rarF]
  | x :: l, a, i + 1, h => by
    have := rarF_take l (a + 1) i (by simpa using h)
    simp only [List.take_succ_cons, rarF, List.getD_cons_succ] at this ⊢
    rw [this, show a + 1 + (i : Int) = a + ((i + 1 : Nat) : Int) by omega]
    split <;> simp
theorem symF_mem : ∀ (l : List Int) (a s : Int), s ∈ symF l a ↔ ∃ k, k < l.length ∧ s = a + k ∧ 0 < l.getD k 0
  | [], a, s => by simp [symF]
  | x :: l, a, s => by
    rw [symF, List.mem_append, List.mem_replicate, symF_mem l (a + 1) s]
    constructor
    · rintro (⟨h1, h2⟩ | ⟨k, h1, h2, h3⟩)
      · exact ⟨0, by simp, by omega, by simp only [List.getD_cons_zero]; omega⟩
      · exact ⟨k + 1, by simp; omega, by omega, by simpa using h3⟩
    · rintro ⟨k, h1, h2, h3⟩
      cases k with
      | zero => left; simp only [List.getD_cons_zero] at h3; exact ⟨by omega, by omega⟩
      | succ k => right; exact ⟨k, by simpa using h1, by omega, by simpa using h3⟩
theorem rarF_mem : ∀ (l : List Int) (a s : Int), s ∈ rarF l a ↔ ∃ k, k < l.length ∧ s = a + k ∧ l.getD k 0 = -1
  | [], a, s => by simp [rarF]
  | x :: l, a, s => by
    have ih := rarF_mem l (a + 1) s
    have e : s ∈ rarF (x :: l) a ↔ (x = -1 ∧ s = a) ∨ s ∈ rarF l (a + 1) := by
      rw [rarF]
      by_cases h : x = -1
      · rw [if_pos h, List.mem_cons]
        constructor
        · rintro (h1 | h1)
          · exact .inl ⟨h, h1⟩
          · exact .inr h1
        · rintro (h1 | h1)
          · exact .inl h1.2
          · exact .inr h1
      · rw [if_neg h]
        constructor
        · exact .inr
        · rintro (h1 | h1)
          · exact absurd h1.1 h
          · exact h1
    rw [e, ih]
    constructor
    · rintro (⟨h1, h2⟩ | ⟨k, h1, h2, h3⟩)
      · exact ⟨0, by simp, by omega, by simpa using h1⟩
      · exact ⟨k + 1, by simp; omega, by omega, by simpa using h3⟩
    · rintro ⟨k, h1, h2, h3⟩
      cases k with
      | zero => left; simp only [List.getD_cons_zero] at h3; exact ⟨h3, by omega⟩
      | succ k => right; exact ⟨k, by simpa using h1, by omega, by simpa using h3⟩
/-- Points: -1 counts as one. -/
def ptsF : List Int → Int
  | [] => 0
  | p :: r => (if p < 0 then 1 else p) + ptsF r
theorem ptsF_app : ∀ a b : List Int, ptsF (a ++ b) = ptsF a + ptsF b
  | [], b => by simp [ptsF]
  | x :: a, b => by rw [List.cons_append, ptsF, ptsF, ptsF_app a b]; omega
theorem ptsF_take {l : List Int} {i : Nat} (h : i < l.length) : ptsF (l.take (i + 1)) = ptsF (l.take i) + (if l.getD i 0 < 0 then 1 else l.getD i 0) := by
  have e : l.take (i + 1) = l.take i ++ [l.getD i 0] := by
    rw [List.take_add_one, List.getD_eq_getElem?_getD, List.getElem?_eq_getElem h]; rfl
  rw [e, ptsF_app]
  simp only [ptsF]
  omega
theorem ptsF_nn : ∀ l : List Int, 0 ≤ ptsF l
  | [] => Int.le_refl _
  | x :: l => by have := ptsF_nn l; rw [ptsF]; split <;> omega
theorem ptsF_take_le (l : List Int) (i : Nat) : ptsF (l.take i) ≤ ptsF l := by
  have h := ptsF_app (l.take i) (l.drop i)
  rw [List.take_append_drop] at h
  have := ptsF_nn (l.drop i)
  omega
theorem pts_split : ∀ (l : List Int) (a : Int), (∀ x ∈ l, -1 ≤ x) → ptsF l = (rarF l a).length + (symF l a).length
  | [], a, _ => rfl
  | x :: l, a, h => by
    have ih := pts_split l (a + 1) (fun y hy => h y (by simp [hy]))
    have hx := h x (by simp)
    rw [ptsF, rarF, symF, List.length_append, List.length_replicate, ih]
    by_cases h1 : x = -1
    · rw [if_pos h1, if_pos (by omega), List.length_cons, show x.toNat = 0 by omega]; push_cast; omega
    · rw [if_neg h1, if_neg (by omega)]; push_cast; omega
/-! ### Cells -/
def put : List Int → List Nat → List Int → List Int
  | o, c :: cs, s :: ss => put (o.set c s) cs ss
  | o, _, _ => o
theorem put_snoc : ∀ (o : List Int) (cs : List Nat) (ss : List Int) (c : Nat) (s : Int), cs.length = ss.length → put o (cs ++ [c]) (ss ++ [s]) = (put o cs ss).set c s
  | o, [], [], c, s, _ => rfl
  | o, x :: cs, [], c, s, h => by simp at h
  | o, [], y :: ss, c, s, h => by simp at h
  | o, x :: cs, y :: ss, c, s, h => by
    rw [List.cons_append, List.cons_append, put, put, put_snoc (o.set x y) cs ss c s (by simpa using h)]
theorem put_len : ∀ (o : List Int) (cs : List Nat) (ss : List Int), (put o cs ss).length = o.length
  | o, [], ss => by cases ss <;> rfl
  | o, c :: cs, [] => rfl
  | o, c :: cs, s :: ss => by rw [put, put_len]; simp
theorem put_out : ∀ (o : List Int) (cs : List Nat) (ss : List Int) (i : Nat), i ∉ cs → (put o cs ss).getD i 0 = o.getD i 0
  | o, [], ss, i, _ => by cases ss <;> rfl
  | o, c :: cs, [], i, _ => rfl
  | o, c :: cs, s :: ss, i, h => by
    rw [put, put_out _ cs ss i (fun hh => h (by simp [hh]))]
    rw [List.getD_eq_getElem?_getD, List.getD_eq_getElem?_getD, List.getElem?_set_ne (fun e => h (by simp [e]))]
/-- The rare symbols' cells: the last ones, downwards. -/
def rarO (z : Nat) (rs : List Int) : List Int := List.replicate (z - rs.length) 0 ++ rs.reverse
theorem rarO_len {z : Nat} {rs : List Int} (h : rs.length ≤ z) : (rarO z rs).length = z := by
  simp only [rarO, List.length_append, List.length_replicate, List.length_reverse]; omega
theorem rarO_nil (z : Nat) : rarO z [] = List.replicate z 0 := by simp [rarO]
theorem rarO_set {z : Nat} {rs : List Int} (h : rs.length < z) (s : Int) : (rarO z rs).set (z - 1 - rs.length) s = rarO z (rs ++ [s]) := by
  unfold rarO
  rw [List.length_append, List.length_singleton, List.reverse_append, List.reverse_singleton, show z - rs.length = (z - (rs.length + 1)) + 1 by omega, List.replicate_succ', List.append_assoc, List.set_append_right _ _ (by simp; omega)]
  simp only [List.length_replicate, show z - 1 - rs.length - (z - (rs.length + 1)) = 0 by omega, List.singleton_append, List.set_cons_zero]
/-- The symbols of all cells. -/
def sprd (z : Nat) (ps : List Int) : List Int := put (rarO z (rarF ps 0)) (vis z (symF ps 0).length z) (symF ps 0)
theorem sprd_len {z : Nat} {ps : List Int} (h : (rarF ps 0).length ≤ z) : (sprd z ps).length = z := by
  rw [sprd, put_len, rarO_len h]
/-- What a distribution is right: its error. -/
def dE (L : Int) (ps : List Int) : Int :=
  if L < 5 ∨ 12 < L then 31
  else if ps.length < 1 ∨ 256 < ps.length ∨ ps.getD (ps.length - 1) 0 = 0 ∨ (¬ ∀ x ∈ ps, -1 ≤ x) ∨ ptsF ps ≠ 2 ^ L.toNat then 23 else 0
end Go.Proofs.Ytgbddbiimffplaa
