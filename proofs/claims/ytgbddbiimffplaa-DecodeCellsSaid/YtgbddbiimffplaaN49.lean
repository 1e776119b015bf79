/-
  A part of the proof of a statement of a chapter's seat; conditions: stated at each theorem.
-/
import Derived.Test.YtgbddbiimffplaaN45
set_option linter.unusedVariables false
set_option linter.unusedSectionVars false
set_option linter.unusedSimpArgs false
set_option linter.unusedVariables false
set_option maxRecDepth 100000
set_option maxHeartbeats 8000000
namespace Go.Proofs.Ytgbddbiimffplaa
open Go.Az Go
/-! ### The cells of a symbol, one behind the other -/
def symC (T : List Ce) (k i : Nat) : Int := ctI ((T.map fun c => c.s).take i) k
def Pq (L : Nat) (T : List Ce) (p : Int) (k i : Nat) : Int := posX L p (p + symC T k i)
structure RgF (L : Nat) (T : List Ce) (p : Int) (k i : Nat) : Prop where
  b0 : 0 ≤ (T.getD i ce0).b
  bL : (T.getD i ce0).b ≤ L
  w1 : (1 : Int) ≤ 2 ^ (T.getD i ce0).b.toNat
  w2 : (2 : Int) ^ (T.getD i ce0).b.toNat ≤ 2 ^ L
  lo : Pq L T p k 0 ≤ Pq L T p k i
  st : Pq L T p k (i + 1) = Pq L T p k i + 2 ^ (T.getD i ce0).b.toNat
  up : Pq L T p k (i + 1) ≤ Pq L T p k 0 + 2 ^ L
  bs : (T.getD i ce0).x = if Pq L T p k i < 2 ^ L then Pq L T p k i else Pq L T p k i - 2 ^ L
  fit : Pq L T p k i < 2 ^ L → Pq L T p k (i + 1) ≤ 2 ^ L
  sy : symC T k (i + 1) = symC T k i + 1
  hi : (T.getD i ce0).b = L - hiF (p + symC T k i)
  lt : p + symC T k i < 2 * p
theorem map_sy {n : Nat} {ps : List Int} (he : dE n ps = 0) : (dcQ n ps).map (fun c => c.s) = sprd (2 ^ n) ps := by
  have hl := dcQ_n he
  have hll := dist_len rfl (dE_okN he).2.2.2.2.2
  refine List.ext_getElem (by rw [List.length_map, hl, hll]) fun i h1 h2 => ?_
  have h3 := dcQ_sy he (i := i) (by omega)
  rw [syA] at h3
  rw [List.getElem_map]
  rw [List.getD_eq_getElem?_getD, List.getElem?_eq_getElem (by omega), Option.getD_some, List.getD_eq_getElem?_getD, List.getElem?_eq_getElem h2, Option.getD_some] at h3
  exact h3
theorem getD_map_s (T : List Ce) (i : Nat) (h : i < T.length) : (T.map fun c => c.s).getD i 0 = (T.getD i ce0).s := by
  rw [List.getD_eq_getElem?_getD, List.getElem?_map, List.getD_eq_getElem?_getD, List.getElem?_eq_getElem h]; rfl
theorem sy_zero (T : List Ce) (k : Nat) : symC T k 0 = 0 := by rw [symC, List.take_zero]; rfl
theorem sy_miss {T : List Ce} {k i : Nat} (hi : i < T.length) (h : (T.getD i ce0).s ≠ k) : symC T k (i + 1) = symC T k i := by
  rw [symC, ctI_take (by rw [List.length_map]; exact hi), getD_map_s T i hi, if_neg h, Int.add_zero]; rfl
theorem sy_hit {T : List Ce} {k i : Nat} (hi : i < T.length) (h : (T.getD i ce0).s = k) : symC T k (i + 1) = symC T k i + 1 := by
  rw [symC, ctI_take (by rw [List.length_map]; exact hi), getD_map_s T i hi, if_pos h]; rfl
theorem sy_nn (T : List Ce) (k i : Nat) : 0 ≤ symC T k i := ctI_nn _ _
theorem sy_le (T : List Ce) (k i : Nat) : symC T k i ≤ T.length := by
  have h1 := ctI_take_le (T.map fun c => c.s) i k
  have h2 := ctI_le (T.map fun c => c.s) k
  rw [List.length_map] at h2
  rw [symC]; omega
theorem Pq_zero (L : Nat) (T : List Ce) (p : Int) (k : Nat) : Pq L T p k 0 = posX L p p := by rw [Pq, sy_zero, Int.add_zero]
theorem Pq_miss {L : Nat} {T : List Ce} {p : Int} {k i : Nat} (hi : i < T.length) (h : (T.getD i ce0).s ≠ k) : Pq L T p k (i + 1) = Pq L T p k i := by rw [Pq, sy_miss hi h]; rfl
theorem sy_end {n : Nat} {ps : List Int} (he : dE n ps = 0) {k : Nat} (hk : k < ps.length) : symC (dcQ n ps) k (dcQ n ps).length = baseN (ps.getD k 0) := by
  obtain ⟨h5, h12, hp1, hp2, hlast, hok⟩ := dE_okN he
  have hge := hok.ge _ (getD_mem hk)
  rw [symC, map_sy he, dcQ_n he, List.take_of_length_le (by rw [dist_len rfl hok]; exact Nat.le_refl _), sprd_ct hok k hk]
  unfold baseN wantI
  by_cases h : ps.getD k 0 = -1
  · rw [if_pos h, if_pos (by omega)]
  · rw [if_neg h, if_neg (by omega)]
theorem Pq_end {n : Nat} {ps : List Int} (he : dE n ps = 0) {k : Nat} (hk : k < ps.length) (h0 : ps.getD k 0 ≠ 0) (hlt : baseN (ps.getD k 0) < 2 ^ n) :
    Pq n (dcQ n ps) (baseN (ps.getD k 0)) k (dcQ n ps).length = Pq n (dcQ n ps) (baseN (ps.getD k 0)) k 0 + 2 ^ n ∧ 0 ≤ Pq n (dcQ n ps) (baseN (ps.getD k 0)) k 0 ∧ Pq n (dcQ n ps) (baseN (ps.getD k 0)) k 0 < 2 ^ n := by
  obtain ⟨h5, h12, hp1, hp2, hlast, hok⟩ := dE_okN he
  have hge := hok.ge _ (getD_mem hk)
  have hb : 1 ≤ baseN (ps.getD k 0) := by unfold baseN; split <;> omega
  rw [Pq_zero, Pq, sy_end he hk, show baseN (ps.getD k 0) + baseN (ps.getD k 0) = 2 * baseN (ps.getD k 0) by omega]
  exact pos_end' hb hlt
theorem rg_of {n : Nat} {ps : List Int} (he : dE n ps = 0) {k : Nat} (hk : k < ps.length) (hlt : baseN (ps.getD k 0) < 2 ^ n) {i : Nat} (hi : i < (dcQ n ps).length) (hs : ((dcQ n ps).getD i ce0).s = k) : RgF n (dcQ n ps) (baseN (ps.getD k 0)) k i := by
  obtain ⟨h5, h12, hp1, hp2, hlast, hok⟩ := dE_okN he
  have hn := dcQ_n he
  rw [hn] at hi
  obtain ⟨k', c⟩ := cel_of hok hi
  have hsy := dcQ_sy he hi
  rw [syA, hs, c.at'] at hsy
  obtain rfl : k = k' := by omega
  have hcel := dcQ_cel he hi
  have hA : numA ps (sprd (2 ^ n) ps) i = baseN (ps.getD k 0) + symC (dcQ n ps) k i := by rw [c.eq, symC, map_sy he]
  have hst := sy_hit (T := dcQ n ps) (k := k) (i := i) (by omega) hs
  have hnn := sy_nn (dcQ n ps) k i
  have hb : 1 ≤ baseN (ps.getD k 0) := by have := c.ge; have := c.ne; unfold baseN; split <;> omega
  have hlo := c.lo
  rw [hA] at hlo
  have f := pos_step (n := n) hb hlt (x := baseN (ps.getD k 0) + symC (dcQ n ps) k i) (by omega) hlo
  have eb : ((dcQ n ps).getD i ce0).b = (n : Int) - hiF (baseN (ps.getD k 0) + symC (dcQ n ps) k i) := by rw [hcel]; show (n : Int) - hiF (numA _ _ _) = _; rw [hA]
  have ex : ((dcQ n ps).getD i ce0).x = (baseN (ps.getD k 0) + symC (dcQ n ps) k i) * 2 ^ ((n : Int) - hiF (baseN (ps.getD k 0) + symC (dcQ n ps) k i)).toNat - 2 ^ n := by
    rw [hcel]; show numA _ _ _ * _ - 2 ^ (n : Int).toNat = _; rw [hA, Int.toNat_natCast]
  have h0 := c.h0
  have hhn := c.hn
  rw [hA] at h0 hhn
  have e1 : Pq n (dcQ n ps) (baseN (ps.getD k 0)) k (i + 1) = posX n (baseN (ps.getD k 0)) (baseN (ps.getD k 0) + symC (dcQ n ps) k i + 1) := by rw [Pq, hst]; congr 1; omega
  have e0 := Pq_zero n (dcQ n ps) (baseN (ps.getD k 0)) k
  have hw1 : (1 : Nat) ≤ 2 ^ ((dcQ n ps).getD i ce0).b.toNat := Nat.pow_pos (by omega)
  have hw2 : (2 : Nat) ^ ((dcQ n ps).getD i ce0).b.toNat ≤ 2 ^ n := Nat.pow_le_pow_right (by omega) (by omega)
  have ez := pow_z n
  have ew := pow_z ((dcQ n ps).getD i ce0).b.toNat
  refine ⟨by omega, by omega, by omega, by omega, ?_, ?_, ?_, ?_, ?_, hst, eb, hlo⟩
  · rw [e0]; exact f.le
  · rw [e1, f.st, eb]; rfl
  · rw [e1, e0]; exact f.up
  · rw [ex]; exact f.bs
  · rw [e1]; exact f.fit
end Go.Proofs.Ytgbddbiimffplaa
