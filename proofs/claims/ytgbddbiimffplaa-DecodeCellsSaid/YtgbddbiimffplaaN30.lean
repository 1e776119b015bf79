/-
  A part of the proof of a statement of a chapter's seat; conditions: stated at each theorem.
-/
import Derived.Test.YtgbddbiimffplaaN7
import Derived.Test.YtgbddbiimffplaaAzR
set_option linter.unusedVariables false
set_option linter.unusedSectionVars false
set_option linter.unusedSimpArgs false
set_option linter.unusedVariables false
set_option maxRecDepth 100000
set_option maxHeartbeats 8000000
namespace Go.Proofs.Ytgbddbiimffplaa
open Go.Az Go
/-! ### Cells of a decoder's table -/
structure Ce where
  s : Int
  b : Int
  x : Int
def encC (c : Ce) : List AV := [I c.s, I c.b, I c.x]
theorem encC_ok : EncOk encC 3 := fun _ => ⟨rfl, rfl⟩
def ce0 : Ce := ⟨0, 0, 0⟩
instance : EncC encC 3 ce0 := ⟨encC_ok⟩
abbrev WC (z : AV) (l : List Ce) : Pc := pcW encC 3 41 z l
abbrev WR (z : AV) (l : List Ce) : Pc := pcR encC 3 z l 512
abbrev EC (h : Hp) (s : AV) (l : List Ce) : Prop := EL Ce encC 3 ce0 h s l
abbrev RC (h : Hp) (L : List Pc) (s : AV) (l : List Ce) : Prop := ER Ce encC 3 ce0 h L s l
def celA (n : Int) (ps l : List Int) (i : Nat) : Ce := ⟨l.getD i 0, n - hiF (numA ps l i), numA ps l i * 2 ^ (n - hiF (numA ps l i)).toNat - 2 ^ n.toNat⟩
def dcd (n : Int) (ps l : List Int) : List Ce := (List.range l.length).map (celA n ps l)
theorem dcd_len (n : Int) (ps l : List Int) : (dcd n ps l).length = l.length := by simp [dcd]
theorem dcd_at {n : Int} {ps l : List Int} {i : Nat} (h : i < l.length) : (dcd n ps l).getD i ce0 = celA n ps l i := by
  rw [dcd, List.getD_eq_getElem?_getD, List.getElem?_map, List.getElem?_range h]; rfl
theorem takeC {l : List Ce} {i : Nat} (h : i < l.length) : l.take (i + 1) = l.take i ++ [l.getD i ce0] := by
  rw [List.take_add_one, List.getD_eq_getElem?_getD, List.getElem?_eq_getElem h]; rfl
def dcQ (L : Int) (ps : List Int) : List Ce := if dE L ps = 0 then dcd L ps (sprd (2 ^ L.toNat) ps) else []
theorem ctI_take_le (l : List Int) (i : Nat) (s : Int) : ctI (l.take i) s ≤ ctI l s := by
  have h := ctI_app (l.take i) (l.drop i) s
  rw [List.take_append_drop] at h
  have := ctI_nn (l.drop i) s
  omega
theorem dist_len {n z : Nat} {ps : List Int} (hz : 2 ^ n = z) (hok : DistOk z ps) : (sprd z ps).length = z := sprd_len (by have := hok.split; omega)
/-- What is known of a cell. -/
structure CelF (n : Nat) (ps l : List Int) (i k : Nat) : Prop where
  lt : k < ps.length
  at' : l.getD i 0 = k
  ge : -1 ≤ ps.getD k 0
  ne : ps.getD k 0 ≠ 0
  n1 : 1 ≤ numA ps l i
  n2 : numA ps l i ≤ 8192
  eq : numA ps l i = baseN (ps.getD k 0) + ctI (l.take i) k
  lo : numA ps l i < 2 * baseN (ps.getD k 0)
  h0 : 0 ≤ hiF (numA ps l i)
  hn : hiF (numA ps l i) ≤ n
  pw : 2 ^ n ≤ numA ps l i * 2 ^ ((n : Int) - hiF (numA ps l i)).toNat ∧ numA ps l i * 2 ^ ((n : Int) - hiF (numA ps l i)).toNat < 2 * 2 ^ n
theorem hi_pow {n : Nat} {x : Int} (h1 : 1 ≤ x) (h2 : hiF x ≤ n) : (2 : Int) ^ n ≤ x * 2 ^ ((n : Int) - hiF x).toNat ∧ x * 2 ^ ((n : Int) - hiF x).toNat < 2 * 2 ^ n := by
  have e : hiF x = Nat.log2 x.toNat := by unfold hiF; rw [if_neg (by omega)]
  have g1 := Nat.log2_self_le (n := x.toNat) (by omega)
  have g2 := Nat.lt_log2_self (n := x.toNat)
  rw [e] at h2 ⊢
  obtain ⟨k, hk⟩ : ∃ k, k = Nat.log2 x.toNat := ⟨_, rfl⟩
  rw [← hk] at h2 g1 g2 ⊢
  obtain ⟨m, rfl⟩ : ∃ m : Nat, n = k + m := ⟨n - k, by omega⟩
  rw [show (((k + m : Nat) : Int) - (k : Int)).toNat = m by omega]
  obtain ⟨y, rfl⟩ : ∃ y : Nat, x = y := ⟨x.toNat, by omega⟩
  rw [Int.toNat_natCast] at g1 g2
  have p1 : 2 ^ k * 2 ^ m ≤ y * 2 ^ m := Nat.mul_le_mul_right _ g1
  have p2 : y * 2 ^ m < 2 ^ (k + 1) * 2 ^ m := Nat.mul_lt_mul_of_pos_right g2 (Nat.pow_pos (by omega))
  have e1 : ((2 ^ k * 2 ^ m : Nat) : Int) = 2 ^ (k + m) := by rw [← Nat.pow_add]; simp
  have e2 : ((2 ^ (k + 1) * 2 ^ m : Nat) : Int) = 2 * 2 ^ (k + m) := by
    rw [← Nat.pow_add, show k + 1 + m = (k + m) + 1 by omega, Nat.pow_succ]; push_cast; omega
  have e3 : ((y * 2 ^ m : Nat) : Int) = (y : Int) * 2 ^ m := by push_cast; rfl
  omega
theorem cel_of {n : Nat} {ps : List Int} (h : DistOk (2 ^ n) ps) {i : Nat} (hi : i < 2 ^ n) : ∃ k, CelF n ps (sprd (2 ^ n) ps) i k := by
  obtain ⟨k, h1, h2, h3⟩ := sprd_sym h i hi
  have hg := h.ge _ (getD_mem h1)
  have hp := pts_le ps _ (getD_mem h1)
  have hz := okZ_pos h.okz
  have hs := h.sum
  have hll := dist_len rfl h
  have hcn := ctI_nn ((sprd (2 ^ n) ps).take i) k
  have ht := ctI_take (l := sprd (2 ^ n) ps) (i := i) (by omega) (k : Int)
  rw [if_pos h2] at ht
  have ht2 := ctI_take_le (sprd (2 ^ n) ps) (i + 1) k
  have hct := sprd_ct h k h1
  have hA : numA ps (sprd (2 ^ n) ps) i = baseN (ps.getD k 0) + ctI ((sprd (2 ^ n) ps).take i) k := by rw [numA, h2, Int.toNat_natCast]
  have hb : baseN (ps.getD k 0) = wantI (ps.getD k 0) ∧ 1 ≤ baseN (ps.getD k 0) ∧ baseN (ps.getD k 0) ≤ 2 ^ n := by
    have e := pow_z n
    unfold baseN wantI
    by_cases hp' : ps.getD k 0 = -1
    · rw [if_pos (by omega), if_pos hp']; omega
    · rw [if_neg (by omega), if_neg hp']; omega
  have hpow : (2 : Int) ^ (n + 1) = 2 * 2 ^ n := by rw [Int.pow_succ]; omega
  have e := pow_z n
  have g1 := hi_bd (numA ps (sprd (2 ^ n) ps) i)
  have g2 := hi_lt (n := numA ps (sprd (2 ^ n) ps) i) (k := n + 1) (by omega) (by omega)
  have g3 : 0 ≤ hiF (numA ps (sprd (2 ^ n) ps) i) := by unfold hiF; rw [if_neg (by omega)]; omega
  exact ⟨k, h1, h2, hg, h3, by omega, by omega, hA, by omega, g3, by omega, hi_pow (by omega) (by omega)⟩
end Go.Proofs.Ytgbddbiimffplaa
