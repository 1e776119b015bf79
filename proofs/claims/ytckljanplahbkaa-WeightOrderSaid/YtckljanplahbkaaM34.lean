/-
  A part of the proof of a statement of a chapter's seat; conditions: stated at each theorem.
-/
import Derived.Test.YtckljanplahbkaaM33
set_option linter.unusedVariables false
set_option linter.unusedSectionVars false
set_option linter.unusedSimpArgs false
set_option linter.unusedVariables false
set_option maxRecDepth 100000
set_option maxHeartbeats 4000000
namespace Go.Proofs.Ytckljanplahbkaa
open Go.Az Go
/-! ### The lengths of a code are right -/
theorem pow2_le {a b : Nat} (h : a ≤ b) : (2 : Int) ^ a ≤ 2 ^ b := by
  have h1 : (2 : Nat) ^ a ≤ 2 ^ b := Nat.pow_le_pow_right (by omega) h
  have e1 : ((2 ^ a : Nat) : Int) = 2 ^ a := by simp
  have e2 : ((2 ^ b : Nat) : Int) = 2 ^ b := by simp
  omega
theorem pow_z (n : Nat) : (2 : Int) ^ n = ((2 ^ n : Nat) : Int) := by simp
theorem mny_mono (l : List Int) : ∀ {a b : Nat}, a ≤ b → mnyF l a ≤ mnyF l b := by
  intro a b h
  induction h with
  | refl => exact Int.le_refl _
  | @step m _ ih => rw [mnyF]; split <;> omega
theorem mem_getD {l : List Int} {x : Int} (h : x ∈ l) : ∃ k, k < l.length ∧ l.getD k 0 = x := by
  obtain ⟨i, h1, h2⟩ := List.getElem_of_mem h
  exact ⟨i, h1, by rw [List.getD_eq_getElem?_getD, List.getElem?_eq_getElem h1]; exact h2⟩
/-- Each symbol that occurs has a length. -/
theorem huf_pos {cs o : List Int} (hc : CsOk cs) (hf : HufOk cs o) {k : Nat} (hk : 0 < cs.getD k 0) : k < cs.length ∧ 1 ≤ o.getD k 0 := by
  have hkl : k < cs.length := by
    apply Classical.byContradiction
    intro hh
    rw [List.getD_eq_getElem?_getD, List.getElem?_eq_none (by omega)] at hk
    simp at hk
  refine ⟨hkl, ?_⟩
  have hb := hf.bd k (by rw [hf.ol]; exact hkl)
  apply Classical.byContradiction
  intro hn
  have h0 : o.getD k 0 = 0 := by omega
  have hm : (k : Int) ∈ posA cs 0 := (posA_mem _ _ _).2 ⟨k, hkl, by omega, hk⟩
  have hlen := posA_many (l := cs) (fun i hi => (hc.bd i hi).1) cs.length (Nat.le_refl _)
  rw [List.take_length] at hlen
  have h2 := hc.two
  have hp := List.perm_cons_erase hm
  have hl := hp.length_eq
  have e := krF_perm o hp
  rw [hf.kr, krF, Int.toNat_natCast, h0] at e
  have hnn := krF_nn o ((posA cs 0).erase (k : Int))
  rw [List.length_cons] at hl
  have e3 : (2 : Int) ^ (64 - (0 : Int).toNat) = 2 ^ 64 := rfl
  omega
theorem huf_nz {cs o : List Int} (hc : CsOk cs) (hf : HufOk cs o) (k : Nat) : o.getD k 0 ≠ 0 ↔ 0 < cs.getD k 0 := by
  constructor
  · intro h
    apply Classical.byContradiction
    intro hh
    exact h (hf.zr k hh)
  · intro h
    have := (huf_pos hc hf h).2
    omega
theorem kr_tot {cs o : List Int} (hc : CsOk cs) (hf : HufOk cs o) : ∀ i, i ≤ cs.length → krF o (posA (cs.take i) 0) = tot (fun x => 2 ^ (64 - x.toNat)) (o.take i)
  | 0, _ => rfl
  | i + 1, hi => by
    have ih := kr_tot hc hf i (by omega)
    have hz := huf_nz hc hf i
    rw [posA_take (by omega), krF_app, ih, takeI (l := o) (by rw [hf.ol]; omega), tot_snoc]
    by_cases hp : 0 < cs.getD i 0
    · rw [if_pos hp, if_neg (hz.2 hp)]
      show _ + (2 ^ (64 - (o.getD (i : Int).toNat 0).toNat) + 0) = _
      rw [Int.toNat_natCast]; omega
    · rw [if_neg hp, if_pos (hf.zr i hp)]
      show _ + (0 : Int) = _
      omega
theorem tot_scale {f g : Int → Int} {c : Int} {l : List Int} (h : ∀ x ∈ l, x ≠ 0 → f x = c * g x) : ∀ i, i ≤ l.length → tot f (l.take i) = c * tot g (l.take i)
  | 0, _ => by simp [tot]
  | i + 1, hi => by
    have ih := tot_scale h i (by omega)
    rw [takeI (by omega), tot_snoc, tot_snoc, ih]
    by_cases e : l.getD i 0 = 0
    · rw [if_pos e, if_pos e]
    · rw [if_neg e, if_neg e, h _ (getD_mem (by omega)) e, Int.mul_add]
theorem cnt_many {cs o : List Int} (hc : CsOk cs) (hf : HufOk cs o) : ∀ i, i ≤ cs.length → cnt (o.take i) = mnyF cs i
  | 0, _ => rfl
  | i + 1, hi => by
    have ih := cnt_many hc hf i (by omega)
    have hz := huf_nz hc hf i
    have hb := hc.bd i (by omega)
    rw [takeI (l := o) (by rw [hf.ol]; omega), cnt_snoc, ih, mnyF]
    by_cases hp : cs.getD i 0 = 0
    · rw [if_pos hp, if_pos (hf.zr i (by omega))]
    · rw [if_neg hp, if_neg (hz.2 (by omega))]
theorem huf_chk {cs o : List Int} (hc : CsOk cs) (hf : HufOk cs o) (h2 : 2 ≤ cs.length) (hl : 0 < cs.getD (cs.length - 1) 0) : chkW o = 0 := by
  have hol := hf.ol
  have hcl := hc.len
  have hin : ∀ x ∈ o, inr x := fun x hx => by
    obtain ⟨k, h1, h3⟩ := mem_getD hx
    have := hf.bd k h1
    rw [h3] at this
    exact this
  have hg := grt_bd o 11 (by omega) fun x hx => (hin x hx).2
  have hge := grt_ge o
  refine cw_0 (by omega) hin ?_
  rintro (h | h | h)
  · rw [hol] at h
    have := (huf_pos hc hf hl).2
    omega
  · have := cnt_many hc hf cs.length (Nat.le_refl _)
    rw [List.take_of_length_le (by omega)] at this
    have := hc.two
    omega
  · apply h
    have e1 := kr_tot hc hf cs.length (Nat.le_refl _)
    rw [List.take_length, hf.kr] at e1
    have e2 := tot_scale (f := fun x => 2 ^ (64 - x.toNat)) (g := fun x => pw (grt o - x)) (c := 2 ^ (64 - (grt o).toNat)) (l := o) (fun x hx hx0 => by
      have := hin x hx
      have := hge x hx
      unfold inr at this
      show (2 : Int) ^ (64 - x.toNat) = 2 ^ (64 - (grt o).toNat) * 2 ^ (grt o - x).toNat
      rw [← Int.pow_add]
      congr 1
      have h5 := (hin x hx).1
      omega) o.length (Nat.le_refl _)
    rw [List.take_length] at e2
    rw [← hol, List.take_length, e2] at e1
    have e3 : (2 : Int) ^ 64 = 2 ^ (64 - (grt o).toNat) * pw (grt o) := by
      show _ = _ * 2 ^ (grt o).toNat
      rw [← Int.pow_add]
      congr 1
      omega
    rw [e3] at e1
    exact (Int.eq_of_mul_eq_mul_left (by have := two_pos (64 - (grt o).toNat); omega) e1).symm
/-! ### Lengths and weights -/
theorem hi_pos {x : Int} (h : 1 ≤ x) : ∃ k : Nat, hiF x = k ∧ (2 : Int) ^ k ≤ x ∧ x < 2 ^ (k + 1) := by
  have e : hiF x = Nat.log2 x.toNat := by unfold hiF; rw [if_neg (by omega)]
  have g1 := Nat.log2_self_le (n := x.toNat) (by omega)
  have g2 := Nat.lt_log2_self (n := x.toNat)
  have p1 := pow_z (Nat.log2 x.toNat)
  have p2 := pow_z (Nat.log2 x.toNat + 1)
  exact ⟨_, e, by omega, by omega⟩
theorem hi_uniq {x : Int} {k : Nat} (h1 : (2 : Int) ^ k ≤ x) (h2 : x < 2 ^ (k + 1)) : hiF x = k := by
  have p1 := pow_z k
  have p2 := pow_z (k + 1)
  have h3 := hi_lt (n := x) (k := k + 1) h2 (by omega)
  have h0 : 0 < 2 ^ k := Nat.pow_pos (by omega)
  obtain ⟨j, e, h4, h5⟩ := hi_pos (x := x) (by omega)
  have : k < j + 1 := by
    have p3 := pow_z (j + 1)
    refine (Nat.pow_lt_pow_iff_right (a := 2) (by omega)).1 ?_
    omega
  omega
theorem hi_pw {n : Int} (h : 0 ≤ n) : hiF (pw n) = n := by
  obtain ⟨k, rfl⟩ : ∃ k : Nat, n = k := ⟨n.toNat, by omega⟩
  unfold pw
  rw [Int.toNat_natCast]
  exact hi_uniq (Int.le_refl _) (by have := two_pos k; rw [Int.pow_succ]; omega)
theorem pw_mono {a b : Int} (h : a ≤ b) : pw a ≤ pw b := pow2_le (by omega)
theorem pw_succ {a : Int} (h : 0 ≤ a) : pw (a + 1) = 2 * pw a := by
  unfold pw
  rw [show (a + 1).toNat = a.toNat + 1 by omega, Int.pow_succ]; omega
theorem trn_at {m : Int} {l : List Int} {i : Nat} (h : i < l.length) : (trn m l).getD i 0 = if l.getD i 0 = 0 then 0 else m + 1 - l.getD i 0 := by
  rw [trn, List.getD_eq_getElem?_getD, List.getElem?_map, List.getElem?_eq_getElem h, List.getD_eq_getElem?_getD, List.getElem?_eq_getElem h]; rfl
theorem trn_take (m : Int) (l : List Int) (i : Nat) : (trn m l).take i = trn m (l.take i) := by simp [trn]
theorem sum_trn {m : Int} {l : List Int} (h : ∀ x ∈ l, x ≤ m) : ∀ i, i ≤ l.length → sumW (trn m (l.take i)) = tot (fun x => pw (m - x)) (l.take i)
  | 0, _ => rfl
  | i + 1, hi => by
    have ih := sum_trn h i (by omega)
    have hx := h _ (getD_mem (l := l) (n := i) (by omega))
    unfold sumW at ih ⊢
    rw [trn_snoc _ _ _ (by omega), takeI (l := l) (by omega), tot_snoc, tot_snoc, ih]
    by_cases e : l.getD i 0 = 0
    · rw [if_pos e, if_pos rfl, if_pos e]
    · rw [if_neg e, if_neg (by omega), if_neg e]
      congr 2
      omega
/-- What is known of right lengths. -/
structure LnOk (l : List Int) : Prop where
  len : 2 ≤ l.length ∧ l.length ≤ 256
  bd : ∀ x ∈ l, 0 ≤ x ∧ x ≤ grt l
  m0 : 1 ≤ grt l ∧ grt l ≤ 11
  la : 1 ≤ l.getD (l.length - 1) 0 ∧ l.getD (l.length - 1) 0 ≤ grt l
  tt : tot (fun x => pw (grt l - x)) l = pw (grt l)
theorem ln_of {l : List Int} (h : chkW l = 0) : LnOk l := by
  obtain ⟨h1, h2, h3⟩ := cw_ok h
  have hg := grt_bd l 11 (by omega) fun x hx => (h3 x hx).2
  have hge := grt_ge l
  rw [chkW, if_neg (by omega), if_neg (fun hh => hh h3)] at h
  split at h
  · cases h
  · next hh =>
    have ha : l.getD (l.length - 1) 0 ≠ 0 := fun e => hh (.inl e)
    have ht : tot (fun x => pw (grt l - x)) l = pw (grt l) := Classical.byContradiction fun e => hh (.inr (.inr e))
    have hm := getD_mem (l := l) (n := l.length - 1) (by omega)
    have hi := h3 _ hm
    have hgm := hge _ hm
    unfold inr at hi
    exact ⟨⟨h1, h2⟩, fun x hx => ⟨(h3 x hx).1, hge x hx⟩, by omega, by omega, ht⟩
theorem ls_is {l : List Int} (h : chkW l = 0) : lsL l = trn (grt l) (l.take (l.length - 1)) := by
  rw [lsL, wtL, if_pos h, List.dropLast_eq_take, trn_len, trn_take]
theorem wt_is {l : List Int} (h : chkW l = 0) : wtL l = lsL l ++ [grt l + 1 - l.getD (l.length - 1) 0] := by
  have k := ln_of h
  have h1 := k.len.1
  have h2 := k.la.1
  rw [ls_is h, wtL, if_pos h]
  have e := trn_snoc (grt l) l (l.length - 1) (by omega)
  rw [show l.length - 1 + 1 = l.length by omega, List.take_length, if_neg (by omega)] at e
  exact e
theorem trn_in {l : List Int} (k : LnOk l) : ∀ x ∈ trn (grt l) l, 0 ≤ x ∧ x ≤ grt l := fun x hx => by
  obtain ⟨i, h1, h2⟩ := mem_getD hx
  rw [trn_len] at h1
  rw [trn_at h1] at h2
  have := k.bd _ (getD_mem h1)
  have := k.m0
  split at h2 <;> omega
theorem sum_all {l : List Int} (h : chkW l = 0) : sumW (wtL l) = pw (grt l) := by
  have k := ln_of h
  have := sum_trn (m := grt l) (fun x hx => (k.bd x hx).2) l.length (Nat.le_refl _)
  rw [List.take_length, k.tt] at this
  rw [wtL, if_pos h]
  exact this
theorem sum_ls {l : List Int} (h : chkW l = 0) : sumW (lsL l) = pw (grt l) - pw (grt l - l.getD (l.length - 1) 0) := by
  have k := ln_of h
  have h1 := sum_all h
  rw [wt_is h, sumW, tot_snoc, if_neg (by have := k.la; omega)] at h1
  rw [show grt l + 1 - l.getD (l.length - 1) 0 - 1 = grt l - l.getD (l.length - 1) 0 by omega] at h1
  unfold sumW; omega
theorem mW_of {l : List Int} {m : Int} (hm : 1 ≤ m) (h1 : pw (m - 1) ≤ sumW l) (h2 : sumW l < pw m) : mW l = m := by
  obtain ⟨k, rfl⟩ : ∃ k : Nat, m = k + 1 := ⟨(m - 1).toNat, by omega⟩
  unfold mW
  rw [hi_uniq (k := k) (x := sumW l)]
  · have : pw ((k : Int) + 1 - 1) = 2 ^ k := by unfold pw; congr 1; omega
    omega
  · have : pw ((k : Int) + 1) = 2 ^ (k + 1) := by unfold pw; congr 1
    omega
theorem ls_len {l : List Int} (h : chkW l = 0) : (lsL l).length = l.length - 1 := by
  rw [ls_is h, trn_len, List.length_take]; omega
theorem ls_in {l : List Int} (h : chkW l = 0) : ∀ x ∈ lsL l, 0 ≤ x ∧ x ≤ grt l := fun x hx => by
  have k := ln_of h
  rw [ls_is h, ← trn_take] at hx
  exact trn_in k x (List.mem_of_mem_take hx)
structure ImpF (l : List Int) : Prop where
  e : impE (lsL l) = 0
  m : impM (lsL l) = grt l
  w : impW (lsL l) = grt l + 1 - l.getD (l.length - 1) 0
theorem imp_ls {l : List Int} (h : chkW l = 0) : ImpF l := by
  have k := ln_of h
  obtain ⟨k1, k2⟩ := k.len
  obtain ⟨k3, k4⟩ := k.m0
  obtain ⟨k5, k6⟩ := k.la
  have hs := sum_ls h
  have p1 := pw_mono (a := grt l - l.getD (l.length - 1) 0) (b := grt l - 1) (by omega)
  have p2 := pw_succ (a := grt l - 1) (by omega)
  rw [show grt l - 1 + 1 = grt l by omega] at p2
  have p3 := pw_pos (grt l - l.getD (l.length - 1) 0)
  have p4 := pw_pos (grt l - 1)
  have hm := mW_of (l := lsL l) (m := grt l) k3 (by omega) (by omega)
  have hlf : lfW (lsL l) = pw (grt l - l.getD (l.length - 1) 0) := by unfold lfW; rw [hm, hs]; omega
  have hhi : hiF (lfW (lsL l)) = grt l - l.getD (l.length - 1) 0 := by rw [hlf]; exact hi_pw (by omega)
  have hll := ls_len h
  have he : impE (lsL l) = 0 := by
    refine im_0 (by omega) (fun x hx => ?_) ?_
    · have := ls_in h x hx; unfold inr; omega
    · rw [hm, hhi, hlf, hs]
      rintro (h1 | h1 | h1)
      · omega
      · omega
      · exact h1 rfl
  exact ⟨he, by rw [impM, if_pos he, hm], by rw [impW, if_pos he, hhi]; omega⟩
theorem ln_ls {l : List Int} (h : chkW l = 0) : lnL (lsL l) = l := by
  have k := ln_of h
  have f := imp_ls h
  rw [lnL, if_pos f.e, f.m, f.w, ← wt_is h, wtL, if_pos h]
  refine List.ext_getElem (by rw [trn_len, trn_len]) fun i h1 h2 => ?_
  have e1 := trn_at (m := grt l) (l := trn (grt l) l) (i := i) (by rw [trn_len]; exact h2)
  have e2 := trn_at (m := grt l) h2
  have hb := k.bd _ (getD_mem h2)
  rw [List.getD_eq_getElem?_getD, List.getElem?_eq_getElem h1, Option.getD_some] at e1
  rw [e1, e2]
  have e3 : l.getD i 0 = l[i] := by rw [List.getD_eq_getElem?_getD, List.getElem?_eq_getElem h2, Option.getD_some]
  by_cases hz : l.getD i 0 = 0
  · rw [if_pos hz, if_pos rfl]; omega
  · rw [if_neg hz, if_neg (by omega)]; omega
end Go.Proofs.Ytckljanplahbkaa
