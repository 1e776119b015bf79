/-
  A part of the proof of a statement of a chapter's seat; conditions: stated at each theorem.
-/
import Derived.Test.YtgbddbiimffplaaN18
set_option linter.unusedVariables false
set_option linter.unusedSectionVars false
set_option linter.unusedSimpArgs false
set_option linter.unusedVariables false
set_option maxRecDepth 100000
set_option maxHeartbeats 8000000
namespace Go.Proofs.Ytgbddbiimffplaa
open Go.Az Go
/-! ### The two ways to find the symbols with -1 -/
def lwK (t : List Ce) (ps : List Int) : Nat → List Int
  | 0 => ps
  | k + 1 => (lwK t ps k).set (syA t (t.length - 1 - k)).toNat (-1)
theorem lwK_len (t : List Ce) (ps : List Int) : ∀ k, (lwK t ps k).length = ps.length
  | 0 => rfl
  | k + 1 => by rw [lwK, List.length_set, lwK_len t ps k]
theorem set_get (l : List Int) (i k : Nat) (v : Int) : (l.set i v).getD k 0 = if i = k ∧ k < l.length then v else l.getD k 0 := by
  rw [List.getD_eq_getElem?_getD, List.getElem?_set, List.getD_eq_getElem?_getD]
  by_cases h : i = k
  · subst h
    by_cases h2 : i < l.length
    · simp [h2]
    · simp [h2]
  · simp [h]
theorem lwK_or (t : List Ce) (ps : List Int) (x : Nat) : ∀ k, (lwK t ps k).getD x 0 = ps.getD x 0 ∨ (lwK t ps k).getD x 0 = -1
  | 0 => .inl rfl
  | k + 1 => by
    rw [lwK, set_get]
    split
    · exact .inr rfl
    · exact lwK_or t ps x k
theorem lwK_ne (t : List Ce) (ps : List Int) (x : Nat) : ∀ k, (∀ j, j < k → (syA t (t.length - 1 - j)).toNat ≠ x) → (lwK t ps k).getD x 0 = ps.getD x 0
  | 0, _ => rfl
  | k + 1, h => by
    rw [lwK, set_get, if_neg (fun hh => h k (by omega) hh.1)]
    exact lwK_ne t ps x k fun j hj => h j (by omega)
theorem low_asc {t : List Ce} {ps : List Int} : ∀ (k : Nat), (∀ i, i ≤ k → okL t ps i) → k < t.length → ∀ j, j < k → syA t (t.length - 1 - j) < syA t (t.length - 1 - k)
  | 0, _, _, j, hj => absurd hj (Nat.not_lt_zero _)
  | k + 1, h, hk, j, hj => by
    have h1 := (h (k + 1) (Nat.le_refl _)).2
    have h2 : syA t (t.length - (k + 1)) < syA t (t.length - 1 - (k + 1)) := by
      rcases h1 with h1 | h1
      · cases h1
      · exact h1
    rw [show t.length - (k + 1) = t.length - 1 - k by omega] at h2
    by_cases hjk : j = k
    · rw [hjk]; exact h2
    · have := low_asc k (fun i hi => h i (by omega)) (by omega) j (by omega)
      omega
open Classical in
theorem dwn_low {L : Int} {m : Nat} {t : List Ce} {ps : List Int} {n : Nat} (hf : LowF t ps n) (hsy : ∀ i, i < t.length → 0 ≤ syA t i ∧ syA t i < 256) :
    ∀ (i k : Nat) (b : Int), i + k = t.length → k ≤ n → (k = 0 → b = -1) → (0 < k → b = syA t (t.length - k)) → dwn L m t i (lwK t ps k) b = if ∃ j, k < j ∧ j ≤ n ∧ fitQ L ((lwK t ps j).take (m + 1)) t = true then 0 else 3
  | 0, k, b, hi, hk, _, _ => by
    have hl := hf.le
    rw [dwn, if_neg]
    rintro ⟨j, h1, h2, _⟩; omega
  | i + 1, k, b, hi, hk, hb0, hb1 => by
    have hl := hf.le
    have e : t.length - 1 - k = i := by omega
    have hs := hsy i (by omega)
    rw [dwn]
    by_cases hkn : k = n
    · subst hkn
      have hno := hf.no (by omega)
      rw [okL, e] at hno
      have hor := lwK_or t ps (syA t i).toNat k
      rw [if_pos, if_neg]
      · rintro ⟨j, h1, h2, _⟩; omega
      · by_cases hp : ps.getD (syA t i).toNat 0 = 1
        · by_cases hk0 : k = 0
          · exact absurd ⟨hp, .inl hk0⟩ hno
          · right
            rw [hb1 (by omega)]
            by_cases hlt : syA t (t.length - k) < syA t i
            · exact absurd ⟨hp, .inr hlt⟩ hno
            · omega
        · left
          rcases hor with ho | ho
          · rw [ho]; exact hp
          · rw [ho]; decide
    · have hok := hf.ok k (by omega)
      have hasc := low_asc k (fun j hj => hf.ok j (by omega)) (by omega)
      rw [e] at hasc
      rw [okL, e] at hok
      have hne := lwK_ne t ps (syA t i).toNat k (fun j hj hx => by
        have h1 := hasc j hj
        have h2 := hsy (t.length - 1 - j) (by omega)
        omega)
      have hstep : (lwK t ps k).set (syA t i).toNat (-1) = lwK t ps (k + 1) := by rw [lwK, e]
      rw [if_neg, hstep]
      · by_cases hfit : fitQ L ((lwK t ps (k + 1)).take (m + 1)) t = true
        · rw [if_pos hfit, if_pos ⟨k + 1, by omega, by omega, hfit⟩]
        · rw [if_neg hfit, dwn_low hf hsy i (k + 1) _ (by omega) (by omega) (by omega) (fun _ => by rw [show t.length - (k + 1) = i by omega])]
          have : (∃ j, k + 1 < j ∧ j ≤ n ∧ fitQ L ((lwK t ps j).take (m + 1)) t = true) ↔ (∃ j, k < j ∧ j ≤ n ∧ fitQ L ((lwK t ps j).take (m + 1)) t = true) := by
            constructor
            · rintro ⟨j, h1, h2, h3⟩; exact ⟨j, by omega, h2, h3⟩
            · rintro ⟨j, h1, h2, h3⟩
              by_cases hj : j = k + 1
              · subst hj; exact absurd h3 hfit
              · exact ⟨j, by omega, h2, h3⟩
          simp only [this]
      · rw [hne]
        rintro (h | h)
        · exact h hok.1
        · by_cases hk0 : k = 0
          · have := hb0 hk0; omega
          · rw [hb1 (by omega)] at h
            rcases hok.2 with h2 | h2
            · exact hk0 h2
            · omega
open Classical in
theorem chkM_low {t : List Ce} {n : Nat} (hf : LowF t (cnT t t.length) n) (hsy : ∀ i, i < t.length → 0 ≤ syA t i ∧ syA t i < 256) :
    chkM t = if ∃ j, j ≤ n ∧ fitQ (hiF t.length) ((lwK t (cnT t t.length) j).take (lsT t t.length + 1)) t = true then 0 else 3 := by
  rw [chkM]
  by_cases h0 : fitQ (hiF t.length) ((cnT t t.length).take (lsT t t.length + 1)) t = true
  · rw [if_pos h0, if_pos ⟨0, Nat.zero_le _, h0⟩]
  · rw [if_neg h0, show cnT t t.length = lwK t (cnT t t.length) 0 from rfl, dwn_low hf hsy t.length 0 (-1) (by omega) (Nat.zero_le _) (fun _ => rfl) (fun hh => absurd hh (by omega))]
    have : (∃ j, 0 < j ∧ j ≤ n ∧ fitQ (hiF t.length) ((lwK t (cnT t t.length) j).take (lsT t t.length + 1)) t = true) ↔ (∃ j, j ≤ n ∧ fitQ (hiF t.length) ((lwK t (cnT t t.length) j).take (lsT t t.length + 1)) t = true) := by
      constructor
      · rintro ⟨j, h1, h2, h3⟩; exact ⟨j, h2, h3⟩
      · rintro ⟨j, h2, h3⟩
        by_cases hj : j = 0
        · subst hj; exact absurd h3 h0
        · exact ⟨j, by omega, h2, h3⟩
    show (if ∃ j, 0 < j ∧ _ then (0 : Int) else 3) = _
    simp only [this]; rfl
theorem lsT_ge (t : List Ce) : ∀ i j, j < i → (syA t j).toNat ≤ lsT t i
  | 0, j, h => absurd h (Nat.not_lt_zero _)
  | i + 1, j, h => by
    have h1 : j < i → (syA t j).toNat ≤ lsT t i := lsT_ge t i j
    rw [lsT]
    by_cases hj : j = i
    · subst hj; split <;> omega
    · have := h1 (by omega)
      split <;> omega
theorem one_eta {t : List Ce} (h1 : t.length = 1) : t = [t.getD 0 ce0] := by
  match t, h1 with
  | [x], _ => rfl
theorem chk_one {t : List Ce} (h1 : t.length = 1) (hs : ¬ badS t) : chkQ t = if (t.getD 0 ce0).b = 0 ∧ (t.getD 0 ce0).x = 0 then 0 else 3 := by
  have hb : ¬ (syA t 0 < 0 ∨ 256 ≤ syA t 0) := fun h => hs ⟨0, by omega, h⟩
  rw [chkQ, if_pos h1, oneE, if_neg hb, oneL, if_neg hb]
  have e := one_eta h1
  by_cases hc : (t.getD 0 ce0).b = 0 ∧ (t.getD 0 ce0).x = 0
  · rw [if_pos hc, if_pos]
    refine ⟨rfl, sameC_iff.2 ?_⟩
    rw [e]
    simp only [syA, List.getD_cons_zero]
    have : t.getD 0 ce0 = ⟨(t.getD 0 ce0).s, (t.getD 0 ce0).b, (t.getD 0 ce0).x⟩ := rfl
    rw [hc.1, hc.2] at this
    rw [← this]
  · rw [if_neg hc, if_neg]
    rintro ⟨_, h2⟩
    have := sameC_iff.1 h2
    apply hc
    rw [this]
    exact ⟨rfl, rfl⟩
theorem fit_lt {L : Int} {ps : List Int} {t : List Ce} (h : L < 5) : fitQ L ps t = false := by
  cases hf : fitQ L ps t
  · rfl
  · have := (fit_eq hf).1
    rw [dE_31 (.inl h)] at this; cases this
open Classical in
theorem chk_low {t : List Ce} {n : Nat} (hs : ¬ badS t) (hz : t.length ≠ 0) (hp : (t.length : Int) = 2 ^ (hiF t.length).toNat) (hL : hiF t.length ≤ 12) (h1 : ¬ (t.length = 1 ∧ (t.getD 0 ce0).b = 0 ∧ (t.getD 0 ce0).x = 0)) (hf : LowF t (cnT t t.length) n) :
    chkQ t = if ∃ j, j ≤ n ∧ fitQ (hiF t.length) ((lwK t (cnT t t.length) j).take (lsT t t.length + 1)) t = true then 0 else 3 := by
  have hsy : ∀ i, i < t.length → 0 ≤ syA t i ∧ syA t i < 256 := fun i hi => by
    have : ¬ (syA t i < 0 ∨ 256 ≤ syA t i) := fun h => hs ⟨i, hi, h⟩
    omega
  by_cases h5 : hiF t.length < 5
  · rw [if_neg (fun ⟨j, _, h⟩ => by rw [fit_lt h5] at h; cases h)]
    by_cases he : t.length = 1
    · rw [chk_one he hs, if_neg (fun h => h1 ⟨he, h⟩)]
    · rw [chkQ, if_neg he, if_pos (.inl h5)]
  · have he : t.length ≠ 1 := fun he => h5 (by rw [he]; decide)
    rw [chkQ, if_neg he, if_neg (by omega), if_neg hs, chkM_low hf hsy]
end Go.Proofs.Ytgbddbiimffplaa
