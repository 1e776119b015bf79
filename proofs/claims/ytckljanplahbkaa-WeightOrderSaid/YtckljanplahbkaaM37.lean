/-
  A part of the proof of a statement of a chapter's seat; conditions: stated at each theorem.
-/
import Derived.Test.YtckljanplahbkaaM34
set_option linter.unusedVariables false
set_option linter.unusedSectionVars false
set_option linter.unusedSimpArgs false
set_option linter.unusedVariables false
set_option maxRecDepth 100000
set_option maxHeartbeats 4000000
namespace Go.Proofs.Ytckljanplahbkaa
open Go.Az Go
/-! ### Another order of weights -/
theorem tot_app (f : Int → Int) (a b : List Int) : tot f (a ++ b) = tot f a + tot f b := by
  have key : ∀ (b : List Int) (m : Int), b.foldl (fun m x => if x = 0 then m else m + f x) m = m + b.foldl (fun m x => if x = 0 then m else m + f x) 0 := by
    intro b
    induction b with
    | nil => intro m; simp
    | cons x b ih =>
      intro m
      simp only [List.foldl_cons]
      rw [ih, ih (if x = 0 then 0 else 0 + f x)]
      split <;> omega
  unfold tot
  rw [List.foldl_append, key]
theorem imp_congr {a b : List Int} (hl : a.length = b.length) (hm : ∀ x, x ∈ a ↔ x ∈ b) (hs : sumW a = sumW b) : impE a = impE b ∧ impW a = impW b ∧ impM a = impM b := by
  have h1 : mW a = mW b := by unfold mW; rw [hs]
  have h2 : lfW a = lfW b := by unfold lfW; rw [h1, hs]
  have h3 : (∀ x ∈ a, inr x) ↔ (∀ x ∈ b, inr x) := ⟨fun h x hx => h x ((hm x).2 hx), fun h x hx => h x ((hm x).1 hx)⟩
  have h4 : impE a = impE b := by unfold impE; rw [hl, h1, h2, hs]; simp only [h3]
  exact ⟨h4, by unfold impW; rw [h4, h2], by unfold impM; rw [h4, h1]⟩
theorem imp_turn (l : List Int) (k : Nat) : impE (l.drop k ++ l.take k) = impE l ∧ impW (l.drop k ++ l.take k) = impW l ∧ impM (l.drop k ++ l.take k) = impM l := by
  refine imp_congr ?_ (fun x => ?_) ?_
  · rw [List.length_append, List.length_drop, List.length_take]; omega
  · have e := List.take_append_drop k l
    constructor
    · intro h
      rw [← e]
      rcases List.mem_append.1 h with h | h
      · exact List.mem_append_right _ h
      · exact List.mem_append_left _ h
    · intro h
      rw [← e] at h
      rcases List.mem_append.1 h with h | h
      · exact List.mem_append_right _ h
      · exact List.mem_append_left _ h
  · have e := List.take_append_drop k l
    have h1 := tot_app (fun x => pw (x - 1)) (l.take k) (l.drop k)
    rw [e] at h1
    unfold sumW
    rw [tot_app, h1]; omega
theorem imp_all {l : List Int} (h : chkW l = 0) (h255 : l.length ≤ 255) : (grt l = 11 → impE (wtL l) ≠ 0) ∧ (grt l ≠ 11 → impE (wtL l) = 0 ∧ impW (wtL l) = grt l + 1 ∧ impM (wtL l) = grt l + 1) := by
  have k := ln_of h
  obtain ⟨k1, k2⟩ := k.len
  obtain ⟨k3, k4⟩ := k.m0
  have hs := sum_all h
  have p1 := pw_succ (a := grt l) (by omega)
  have p2 := pw_pos (grt l)
  have hm := mW_of (l := wtL l) (m := grt l + 1) (by omega) (by rw [hs, show grt l + 1 - 1 = grt l by omega]; exact Int.le_refl _) (by omega)
  have hlen : (wtL l).length = l.length := by rw [wtL, if_pos h, trn_len]
  have hin : ∀ x ∈ wtL l, inr x := fun x hx => by
    rw [wtL, if_pos h] at hx
    have := trn_in k x hx
    unfold inr; omega
  have hlf : lfW (wtL l) = pw (grt l) := by unfold lfW; rw [hm, hs]; omega
  have hhi : hiF (lfW (wtL l)) = grt l := by rw [hlf]; exact hi_pw (by omega)
  refine ⟨fun h11 => ?_, fun h11 => ?_⟩
  · rw [im_21 (by omega) hin (.inr (.inl (by omega)))]; decide
  · have he : impE (wtL l) = 0 := by
      refine im_0 (by omega) hin ?_
      rintro (h1 | h1 | h1)
      · omega
      · omega
      · rw [hhi, hlf] at h1; exact h1 rfl
    exact ⟨he, by rw [impW, if_pos he, hhi], by rw [impM, if_pos he, hm]⟩
/-! ### A direct description is read back -/
theorem setG' (l : List Int) (i k : Nat) (v : Int) (h : i < l.length) : (l.set i v).getD k 0 = if i = k then v else l.getD k 0 := by
  rw [setG]
  by_cases e : i = k
  · subst e; rw [if_pos ⟨rfl, h⟩, if_pos rfl]
  · rw [if_neg (fun hh => e hh.1), if_neg e]
theorem dir_at (l : List Int) : ∀ i, (dirD l i).getD 0 0 = l.length + 127 ∧ ∀ j, 2 * j < i → (dirD l i).getD (1 + j) 0 = l.getD (2 * j) 0 * 2 ^ 4 + (if 2 * j + 1 < i then l.getD (2 * j + 1) 0 else 0)
  | 0 => ⟨rfl, fun j h => absurd h (Nat.not_lt_zero _)⟩
  | i + 1 => by
    obtain ⟨h0, h1⟩ := dir_at l i
    have hl := dir_len l i
    by_cases he : i % 2 = 0
    · have e : dirD l (i + 1) = dirD l i ++ [l.getD i 0 * 2 ^ 4] := by rw [dirD, if_pos he]
      rw [e]
      refine ⟨?_, fun j hj => ?_⟩
      · rw [List.getD_eq_getElem?_getD, List.getElem?_append_left (by omega), ← List.getD_eq_getElem?_getD]; exact h0
      · by_cases hji : 2 * j < i
        · rw [List.getD_eq_getElem?_getD, List.getElem?_append_left (by omega), ← List.getD_eq_getElem?_getD, h1 j hji, if_pos (by omega), if_pos (by omega)]
        · have : 2 * j = i := by omega
          rw [List.getD_eq_getElem?_getD, List.getElem?_append_right (by omega), show 1 + j - (dirD l i).length = 0 by omega, if_neg (by omega), this]
          show l.getD i 0 * 2 ^ 4 = _
          omega
    · have e : dirD l (i + 1) = (dirD l i).set ((dirD l i).length - 1) ((dirD l i).getD ((dirD l i).length - 1) 0 + l.getD i 0) := by rw [dirD, if_neg he]
      rw [e]
      refine ⟨?_, fun j hj => ?_⟩
      · rw [setG' _ _ _ _ (by omega), if_neg (by omega)]; exact h0
      · rw [setG' _ _ _ _ (by omega)]
        by_cases hje : (dirD l i).length - 1 = 1 + j
        · rw [if_pos hje, hje, h1 j (by omega), if_neg (by omega), if_pos (by omega), show 2 * j + 1 = i by omega]; omega
        · rw [if_neg hje, h1 j (by omega)]
          by_cases h2 : 2 * j + 1 < i
          · rw [if_pos h2, if_pos (by omega)]
          · omega
theorem dirS_len (l : List Int) : (dirS l).length = 1 + (l.length + 1) / 2 := by rw [dirS, List.length_map, dir_len]
theorem byt_mid {a b c : List UInt8} {i : Nat} (h : i < b.length) : byt (a ++ b ++ c) (a.length + i) = byt b i := by
  unfold byt
  rw [List.append_assoc, List.getD_eq_getElem?_getD, List.getElem?_append_right (by omega), Nat.add_sub_cancel_left, List.getElem?_append_left h, ← List.getD_eq_getElem?_getD]
theorem byt_dir {l : List Int} {i : Nat} (h : i < (dirS l).length) (h0 : 0 ≤ (dirD l l.length).getD i 0) (h1 : (dirD l l.length).getD i 0 < 256) : byt (dirS l) i = (dirD l l.length).getD i 0 := by
  have hl : i < (dirD l l.length).length := by rw [dirS, List.length_map] at h; exact h
  unfold byt dirS
  rw [List.getD_eq_getElem?_getD, List.getElem?_map, List.getD_eq_getElem?_getD] at *
  rw [List.getElem?_eq_getElem hl] at *
  simp only [Option.map_some, Option.getD_some] at *
  rw [UInt8.toNat_ofNat']
  omega
theorem rd_back {l : List Int} (he : impE l = 0) (hl : l.length ≤ 128) (a c : List UInt8) : rdD (a ++ dirS l ++ c) a.length = ⟨l, (a.length : Int) + (dirS l).length, 0, 0⟩ := by
  obtain ⟨h1, h2, hin, _⟩ := im_ok he
  obtain ⟨d0, d1⟩ := dir_at l l.length
  have hdl := dirS_len l
  have hb0 : byt (a ++ dirS l ++ c) a.length = l.length + 127 := by
    have := byt_mid (a := a) (b := dirS l) (c := c) (i := 0) (by omega)
    rw [Nat.add_zero] at this
    rw [this, byt_dir (by omega) (by omega) (by omega), d0]
  have hbj : ∀ j, 2 * j < l.length → byt (a ++ dirS l ++ c) (a.length + 1 + j) = l.getD (2 * j) 0 * 2 ^ 4 + (if 2 * j + 1 < l.length then l.getD (2 * j + 1) 0 else 0) := fun j hj => by
    have hx := hin _ (getD_mem (l := l) (n := 2 * j) hj)
    unfold inr at hx
    have hy : 0 ≤ (if 2 * j + 1 < l.length then l.getD (2 * j + 1) 0 else 0) ∧ (if 2 * j + 1 < l.length then l.getD (2 * j + 1) 0 else 0) ≤ 11 := by
      split
      · next hh => exact hin _ (getD_mem hh)
      · omega
    have e := d1 j hj
    rw [show a.length + 1 + j = a.length + (1 + j) by omega, byt_mid (by omega), byt_dir (by omega) (by omega) (by omega), e]
  have hnib : nibs (a ++ dirS l ++ c) a.length l.length = l := by
    refine List.ext_getElem (nibs_len _ _ _) fun i g1 g2 => ?_
    have hx := hin _ (List.getElem_mem g2)
    have ex : l.getD i 0 = l[i] := by rw [List.getD_eq_getElem?_getD, List.getElem?_eq_getElem g2, Option.getD_some]
    unfold inr at hx
    simp only [nibs, List.getElem_map, List.getElem_range, nb]
    by_cases hi : i % 2 = 0
    · rw [if_pos hi, hbj (i / 2) (by omega), show 2 * (i / 2) = i by omega, ex]
      have hy : 0 ≤ (if i + 1 < l.length then l.getD (i + 1) 0 else 0) ∧ (if i + 1 < l.length then l.getD (i + 1) 0 else 0) ≤ 11 := by
        split
        · next hh => exact hin _ (getD_mem hh)
        · omega
      omega
    · rw [if_neg hi, hbj (i / 2) (by omega), show 2 * (i / 2) + 1 = i by omega, if_pos g2, ex]
      have hz := hin _ (getD_mem (l := l) (n := 2 * (i / 2)) (by omega))
      unfold inr at hz
      omega
  have hlen : (a ++ dirS l ++ c).length = a.length + (dirS l).length + c.length := by simp only [List.length_append]
  have e1 : ((a.length : Int)).toNat = a.length := Int.toNat_natCast _
  have e2 : (byt (a ++ dirS l ++ c) a.length - 127).toNat = l.length := by rw [hb0]; omega
  rw [rd_6 (s := a ++ dirS l ++ c) (x := (a.length : Int)) (by omega) (by rw [e1, hb0]; omega) (by rw [e1, hb0]; omega) (by rw [e1, e2, hnib]; exact he)]
  rw [e1, e2, hnib, hb0]
  congr 1
  omega
end Go.Proofs.Ytckljanplahbkaa
