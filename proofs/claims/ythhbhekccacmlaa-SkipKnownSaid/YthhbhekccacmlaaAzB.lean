/-
  Steps of an abstract memory beside the model's: a world that changed elsewhere, a new block, a block of the call's own that was written, a block forgotten, slots and numbers turned. Conditions: stated at each theorem.
-/
import Derived.Test.YthhbhekccacmlaaAzA
namespace Go.Az
open Go Go.Chz

def upd (ρ : Nat → Place) (n : Nat) (p : Place) : Nat → Place := fun i => if i = n then p else ρ i
theorem upd_same (ρ : Nat → Place) (n : Nat) (p : Place) : upd ρ n p n = p := if_pos rfl
theorem upd_ne (ρ : Nat → Place) {n i : Nat} (p : Place) (h : i ≠ n) : upd ρ n p i = ρ i := if_neg h
theorem upd_lt (ρ : Nat → Place) {n : Nat} (p : Place) : ∀ i, i < n → upd ρ n p i = ρ i := fun _ h => upd_ne ρ p (Nat.ne_of_lt h)

section
variable {P : Program} {ρ ρ' : Nat → Place} {h h' : Hp} {w w' : World}

theorem HRel.lt (H : HRel P ρ h w) {i : Nat} {o : AObj} (hi : h[i]? = some o) (ho : o.own = true) : (ρ i).b < w.heap.size := ORel.lt ho (H.obj i o hi)

theorem AObj.sc_mono {n m : Nat} (hnm : n ≤ m) {o : AObj} (h : o.sc n = true) : o.sc m = true := by
  cases o with
  | gone => rfl
  | dfr => rfl
  | cells cs t own => exact scs_mono hnm cs h
  | map es c =>
    simp only [AObj.sc, List.all_eq_true] at h ⊢
    exact fun e he => Go.Az.sc_mono hnm _ (h e he)
  | loop st pe tm ps asg bd d =>
    simp only [AObj.sc, Bool.and_eq_true, Nat.blt_eq] at h ⊢
    exact ⟨scs_mono hnm tm h.1, by omega⟩

/-- A cell that is read keeps where its block does. -/
theorem ORel.keepG {n : Nat} {o : AObj} {p p' : Place} (hr : ORel P ρ w p o) (hs : o.sc n = true) (hρ : ∀ i, i < n → ρ' i = ρ i) (hp : p' = p)
    (hb : o.live = true → p.b < w.heap.size → w'.heap[p.b]? = w.heap[p.b]?) : ORel P ρ' w' p' o := by
  by_cases hlt : p.b < w.heap.size
  · exact hr.keep hs hρ hp fun hl => hb hl hlt
  · cases o with
    | gone => trivial
    | cells cs t own =>
      refine ⟨fun j a hj => ?_, fun ho => absurd (ORel.lt (o := .cells cs t own) ho hr) hlt⟩
      exact absurd (World.block_lt_of_cell? w ⟨p.b, p.o + j, none⟩ (hr.1 j a hj)) hlt
    | map es c => exact absurd (ORel.lt rfl hr) hlt
    | loop st pe tm ps asg bd d => exact absurd (ORel.lt rfl hr) hlt
    | dfr => exact absurd (ORel.lt rfl hr) hlt

/-- A world that lies as it lay at what is named. -/
theorem HRel.other (H : HRel P ρ h w) (hb : ∀ (i : Nat) (o : AObj), h[i]? = some o → o.live = true → (ρ i).b < w.heap.size → w'.heap[(ρ i).b]? = w.heap[(ρ i).b]?) : HRel P ρ h w' :=
  ⟨fun i o hi => (H.obj i o hi).keepG (H.sc i o hi) (fun _ _ => rfl) rfl (hb i o hi), H.sc, H.apart⟩
theorem HRel.drew (H : HRel P ρ h w) : HRel P ρ h w.drew := H.other fun _ _ _ _ _ => rfl
theorem HRel.agree (H : HRel P ρ h w) (hρ : ∀ i, i < h.length → ρ' i = ρ i) : HRel P ρ' h w := by
  have hl : ∀ (i : Nat) (o : AObj), h[i]? = some o → i < h.length := fun i o hi => (List.getElem?_eq_some_iff.1 hi).1
  refine ⟨fun i o hi => (H.obj i o hi).keep (H.sc i o hi) hρ (hρ i (hl i o hi)) fun _ => rfl, H.sc, fun i j o o' hi hj ho ho' hne => ?_⟩
  rw [hρ i (hl i o hi), hρ j (hl j o' hj)]
  exact H.apart i j o o' hi hj ho ho' hne

/-- A step's world: what is named and not owned lies as it lay. -/
theorem HRel.stp_other {m : Nat} (H : HRel P ρ h w) {ρ0 : Nat → Place} {h0 : Hp} {ρ1 : Nat → Place} {h1 : Hp} (S : Stp m ρ0 h0 w ρ1 h1 w')
    (hn : ∀ (i : Nat) (o : AObj), h[i]? = some o → o.live = true → ∀ (j : Nat) (o' : AObj), h0[j]? = some o' → o'.own = true → (ρ0 j).b ≠ (ρ i).b) : HRel P ρ h w' :=
  H.other fun i o hi hl hlt => S.block _ hlt (hn i o hi hl)

/-- A new object behind the others. -/
theorem HRel.push (H : HRel P ρ h w) {o : AObj} {p : Place} (ho : ORel P (upd ρ h.length p) w p o) (hs : o.sc (h.length + 1) = true)
    (hd : o.live = true → ∀ (j : Nat) (o' : AObj), h[j]? = some o' → o'.live = true → (o.own = true ∨ o'.own = true) → (ρ j).b ≠ p.b) : HRel P (upd ρ h.length p) (h ++ [o]) w := by
  have hl : ∀ (i : Nat) (o : AObj), h[i]? = some o → i < h.length := fun i o hi => (List.getElem?_eq_some_iff.1 hi).1
  have hsplit : ∀ (i : Nat) (x : AObj), (h ++ [o])[i]? = some x → (h[i]? = some x ∧ i < h.length) ∨ (i = h.length ∧ x = o) := by
    intro i x hi
    by_cases h1 : i < h.length
    · rw [List.getElem?_append_left h1] at hi; exact .inl ⟨hi, h1⟩
    · rw [List.getElem?_append_right (by omega)] at hi
      have : i - h.length = 0 := by
        rcases Nat.eq_zero_or_pos (i - h.length) with h0 | h0
        · exact h0
        · rw [List.getElem?_eq_none (by simp; omega)] at hi; cases hi
      rw [this] at hi
      simp at hi
      exact .inr ⟨by omega, hi.symm⟩
  refine ⟨fun i x hi => ?_, fun i x hi => ?_, fun i j x y hi hj hx hy hne => ?_⟩
  · rcases hsplit i x hi with ⟨h1, h2⟩ | ⟨rfl, rfl⟩
    · exact (H.obj i x h1).keep (H.sc i x h1) (upd_lt ρ p) (upd_lt ρ p i h2) fun _ => rfl
    · rw [upd_same]; exact ho
  · rw [List.length_append]
    rcases hsplit i x hi with ⟨h1, h2⟩ | ⟨rfl, rfl⟩
    · exact AObj.sc_mono (by simp) (H.sc i x h1)
    · exact hs
  · rcases hsplit i x hi with ⟨h1, h2⟩ | ⟨rfl, rfl⟩ <;> rcases hsplit j y hj with ⟨h3, h4⟩ | ⟨rfl, rfl⟩
    · rw [upd_lt ρ p i h2, upd_lt ρ p j h4]; exact H.apart i j x y h1 h3 hx hy hne
    · rw [upd_lt ρ p i h2, upd_same]
      exact hd hy i x h1 (own_live hx) (.inr hx)
    · rw [upd_lt ρ p j h4, upd_same]
      exact (hd (own_live hx) j y h3 hy (.inl hx)).symm
    · exact absurd rfl hne

/-- One object turned, where its block alone was written. -/
theorem HRel.set (H : HRel P ρ h w) {i : Nat} {x o : AObj} (hi : h[i]? = some x) (hx : x.own = true) (ho : ORel P ρ w' (ρ i) o) (hs : o.sc h.length = true)
    (hb : ∀ b, b ≠ (ρ i).b → b < w.heap.size → w'.heap[b]? = w.heap[b]?) : HRel P ρ (h.set i o) w' := by
  have hl : i < h.length := (List.getElem?_eq_some_iff.1 hi).1
  have hsplit : ∀ (j : Nat) (y : AObj), (h.set i o)[j]? = some y → (j = i ∧ y = o) ∨ (j ≠ i ∧ h[j]? = some y) := by
    intro j y hj
    by_cases e : j = i
    · subst e; rw [List.getElem?_set_self hl] at hj; exact .inl ⟨rfl, by simpa using hj.symm⟩
    · rw [List.getElem?_set_ne (Ne.symm e)] at hj; exact .inr ⟨e, hj⟩
  refine ⟨fun j y hj => ?_, fun j y hj => ?_, fun j k y z hj hk hy hz hne => ?_⟩
  · rcases hsplit j y hj with ⟨rfl, rfl⟩ | ⟨e, hj'⟩
    · exact ho
    · refine (H.obj j y hj').keepG (H.sc j y hj') (fun _ _ => rfl) rfl fun hlv hlt => hb _ ?_ hlt
      exact (H.apart i j x y hi hj' hx hlv (Ne.symm e)).symm
  · rw [List.length_set]
    rcases hsplit j y hj with ⟨rfl, rfl⟩ | ⟨e, hj'⟩
    · exact hs
    · exact H.sc j y hj'
  · rcases hsplit j y hj with ⟨rfl, rfl⟩ | ⟨e, hj'⟩ <;> rcases hsplit k z hk with ⟨rfl, rfl⟩ | ⟨e2, hk'⟩
    · exact absurd rfl hne
    · exact H.apart _ k x z hi hk' hx hz hne
    · refine fun he => H.apart k j x y hi hj' hx (own_live hy) (Ne.symm hne) he.symm
    · exact H.apart j k y z hj' hk' hy hz hne

/-- An object forgotten. -/
theorem HRel.drop (H : HRel P ρ h w) (i : Nat) : HRel P ρ (h.set i .gone) w := by
  have hsplit : ∀ (j : Nat) (y : AObj), (h.set i .gone)[j]? = some y → y = .gone ∨ (h[j]? = some y) := by
    intro j y hj
    by_cases e : j = i
    · subst e
      by_cases hl : j < h.length
      · rw [List.getElem?_set_self hl] at hj; exact .inl (by simpa using hj.symm)
      · rw [List.getElem?_eq_none (by simp; omega)] at hj; cases hj
    · rw [List.getElem?_set_ne (Ne.symm e)] at hj; exact .inr hj
  refine ⟨fun j y hj => ?_, fun j y hj => ?_, fun j k y z hj hk hy hz hne => ?_⟩
  · rcases hsplit j y hj with rfl | hj'
    · trivial
    · exact H.obj j y hj'
  · rw [List.length_set]
    rcases hsplit j y hj with rfl | hj'
    · rfl
    · exact H.sc j y hj'
  · rcases hsplit j y hj with rfl | hj'
    · cases hy
    · rcases hsplit k z hk with rfl | hk'
      · cases hz
      · exact H.apart j k y z hj' hk' hy hz hne

/-- The first numbers alone. -/
theorem HRel.take (H : HRel P ρ h w) (n : Nat) (hs : ∀ o ∈ h.take n, o.sc n = true) : HRel P ρ (h.take n) w := by
  have hsplit : ∀ (j : Nat) (y : AObj), (h.take n)[j]? = some y → h[j]? = some y ∧ j < n := by
    intro j y hj
    rw [List.getElem?_take] at hj
    split at hj
    · exact ⟨hj, by assumption⟩
    · cases hj
  refine ⟨fun j y hj => H.obj j y (hsplit j y hj).1, fun j y hj => ?_, fun j k y z hj hk hy hz hne => H.apart j k y z (hsplit j y hj).1 (hsplit k z hk).1 hy hz hne⟩
  by_cases hl : n ≤ h.length
  · rw [List.length_take, Nat.min_eq_left hl]; exact hs y (List.mem_of_getElem? hj)
  · rw [List.take_of_length_le (by omega)] at hj ⊢; exact H.sc j y hj

/-! ### Steps -/
theorem Stp.of_other (m : Nat) (hos : w'.os = w.os) (htp : w'.tape = w.tape) (hou : w'.output = w.output) (hsz : w.heap.size ≤ w'.heap.size) (hb : ∀ b, b < w.heap.size → w'.heap[b]? = w.heap[b]?) : Stp m ρ h w ρ h w' :=
  ⟨hos, htp, hou, hsz, fun b hlt _ => hb b hlt, fun i o hi ho => .inl ⟨i, o, hi, ho, rfl⟩, fun _ _ => rfl⟩
/-- A new object in a new block, or in none of the call's own. -/
theorem Stp.push {o : AObj} {p : Place} (hos : w'.os = w.os) (htp : w'.tape = w.tape) (hou : w'.output = w.output) (hsz : w.heap.size ≤ w'.heap.size) (hb : ∀ b, b < w.heap.size → w'.heap[b]? = w.heap[b]?) (hp : o.own = true → w.heap.size ≤ p.b) :
    Stp h.length ρ h w (upd ρ h.length p) (h ++ [o]) w' := by
  refine ⟨hos, htp, hou, hsz, fun b hlt _ => hb b hlt, fun i x hi hx => ?_, upd_lt ρ p⟩
  by_cases h1 : i < h.length
  · rw [List.getElem?_append_left h1] at hi; exact .inl ⟨i, x, hi, hx, by rw [upd_lt ρ p i h1]⟩
  · rw [List.getElem?_append_right (by omega)] at hi
    have : i - h.length = 0 := by
      rcases Nat.eq_zero_or_pos (i - h.length) with h0 | h0
      · exact h0
      · rw [List.getElem?_eq_none (by simp; omega)] at hi; cases hi
    rw [this] at hi
    simp at hi
    obtain rfl : i = h.length := by omega
    rw [upd_same]
    exact .inr (hp (hi ▸ hx))
theorem Stp.set (m : Nat) {i : Nat} {x o : AObj} (hi : h[i]? = some x) (hx : x.own = true) (hos : w'.os = w.os) (htp : w'.tape = w.tape) (hou : w'.output = w.output) (hsz : w.heap.size ≤ w'.heap.size)
    (hb : ∀ b, b ≠ (ρ i).b → b < w.heap.size → w'.heap[b]? = w.heap[b]?) : Stp m ρ h w ρ (h.set i o) w' := by
  refine ⟨hos, htp, hou, hsz, fun b hlt hno => hb b (fun e => hno i x hi hx e.symm) hlt, fun j y hj hy => ?_, fun _ _ => rfl⟩
  by_cases e : j = i
  · subst e; exact .inl ⟨j, x, hi, hx, rfl⟩
  · rw [List.getElem?_set_ne (Ne.symm e)] at hj; exact .inl ⟨j, y, hj, hy, rfl⟩
theorem Stp.drop (m : Nat) (i : Nat) : Stp m ρ h w ρ (h.set i .gone) w := by
  refine ⟨rfl, rfl, rfl, Nat.le_refl _, fun _ _ _ => rfl, fun j y hj hy => ?_, fun _ _ => rfl⟩
  by_cases e : j = i
  · subst e
    by_cases hl : j < h.length
    · rw [List.getElem?_set_self hl] at hj; injection hj with hj; subst hj; cases hy
    · rw [List.getElem?_eq_none (by simp; omega)] at hj; cases hj
  · rw [List.getElem?_set_ne (Ne.symm e)] at hj; exact .inl ⟨j, y, hj, hy, rfl⟩
theorem Stp.take (m n : Nat) : Stp m ρ h w ρ (h.take n) w := by
  refine ⟨rfl, rfl, rfl, Nat.le_refl _, fun _ _ _ => rfl, fun j y hj hy => ?_, fun _ _ => rfl⟩
  rw [List.getElem?_take] at hj
  split at hj
  · exact .inl ⟨j, y, hj, hy, rfl⟩
  · cases hj
theorem Stp.drewR (m : Nat) : Stp m ρ h w ρ h w.drew := (Stp.refl m ρ h w).drew
end
end Go.Az
