/-
  A part of the proof of a statement of a chapter's seat; conditions: stated at each theorem.
-/
import Derived.Test.YtlmoenjggggpkaaD11
set_option linter.unusedVariables false
set_option linter.unusedSectionVars false
set_option linter.unusedSimpArgs false
set_option linter.unusedVariables false
set_option maxRecDepth 100000
set_option maxHeartbeats 8000000
namespace Go.Proofs.Ytlmoenjggggpkaa
open Go.Az Go Go.RowKit
/-! ### Numbers that are written one after the other (plain) -/
structure Wr where
  l : List UInt8
  p : Nat
  N : Nat
section
variable (nums : List Int)
def wK (j : Nat) : Nat := (nums.getD j 0 % 33).toNat
def wV (j : Nat) : Nat := valN (nums.getD j 0) (wK nums j)
def wPut (w : Wr) (K V : Nat) : Wr := ⟨w.l ++ emit (w.p + V * 2 ^ w.N) ((w.N + K) / 8), (w.p + V * 2 ^ w.N) / 256 ^ ((w.N + K) / 8), (w.N + K) % 8⟩
def wr : Nat → Wr
  | 0 => ⟨[], 0, 0⟩
  | j + 1 => wPut (wr j) (wK nums j) (wV nums j)
def al : Nat → Nat
  | 0 => 0
  | j + 1 => al j + wK nums j
def hd' : Nat → Nat
  | 0 => 0
  | j + 1 => hd' j + wV nums j * 2 ^ al nums j
theorem wK_le (j : Nat) : wK nums j ≤ 32 := by unfold wK; omega
theorem wV_lt (j : Nat) : wV nums j < 2 ^ wK nums j := valN_lt _ _
theorem wr_ok : ∀ j, (wr nums j).p < 2 ^ (wr nums j).N ∧ (wr nums j).N ≤ 7 ∧ 8 * (wr nums j).l.length + (wr nums j).N = al nums j ∧ numL (wr nums j).l + 256 ^ (wr nums j).l.length * (wr nums j).p = hd' nums j ∧ al nums j ≤ 32 * j
  | 0 => ⟨by show 0 < 2 ^ 0; decide, Nat.zero_le _, rfl, rfl, Nat.le_refl _⟩
  | j + 1 => by
    obtain ⟨h1, h2, h3, h4, h5⟩ := wr_ok j
    have hK := wK_le nums j
    have hV := wV_lt nums j
    refine ⟨put_lt _ _ _ _ h1 hV, by show ((wr nums j).N + wK nums j) % 8 ≤ 7; omega, ?_, ?_, by simp only [al]; omega⟩
    · have := put_len (wr nums j).l (wr nums j).p (wr nums j).N (wK nums j) (wV nums j)
      simp only [wr, wPut, al]; omega
    · have := put_held (wr nums j).l (wr nums j).p (wr nums j).N (wK nums j) (wV nums j)
      simp only [wr, wPut, hd']
      rw [this, h4, h3]
theorem hd_lt (j : Nat) : hd' nums j < 2 ^ al nums j := by
  obtain ⟨h1, h2, h3, h4, h5⟩ := wr_ok nums j
  rw [← h3, ← h4]; exact hold_lt _ _ _ h1
theorem al_mono {i j : Nat} (h : i ≤ j) : al nums i ≤ al nums j := by
  induction j with
  | zero => obtain rfl : i = 0 := by omega
            exact Nat.le_refl _
  | succ j ih =>
    by_cases he : i = j + 1
    · subst he; exact Nat.le_refl _
    · have := ih (by omega)
      simp only [al]; omega
theorem hd_mod {i : Nat} : ∀ {j : Nat}, i ≤ j → hd' nums j % 2 ^ al nums i = hd' nums i
  | 0, h => by obtain rfl : i = 0 := by omega
               exact Nat.mod_eq_of_lt (hd_lt nums 0)
  | j + 1, h => by
    by_cases he : i = j + 1
    · subst he; exact Nat.mod_eq_of_lt (hd_lt nums _)
    · have ih := hd_mod (i := i) (j := j) (by omega)
      have hm := al_mono nums (show i ≤ j by omega)
      have e : 2 ^ al nums j = 2 ^ al nums i * 2 ^ (al nums j - al nums i) := by rw [← Nat.pow_add]; congr 1; omega
      simp only [hd']
      rw [e, ← Nat.mul_assoc, Nat.mul_comm (wV nums j), Nat.mul_assoc, Nat.add_mul_mod_self_left]
      exact ih
/-- A number is read where it was written. -/
theorem read_at {i m : Nat} (h : i < m) : (hd' nums m + 2 ^ al nums m) / 2 ^ al nums i % 2 ^ wK nums i = wV nums i := by
  have h1 := hd_mod nums (show i + 1 ≤ m by omega)
  have h2 := al_mono nums (show i + 1 ≤ m by omega)
  have h3 := hd_lt nums i
  have hV := wV_lt nums i
  have e : al nums (i + 1) = al nums i + wK nums i := rfl
  have ea : 2 ^ al nums m = 2 ^ al nums (i + 1) * 2 ^ (al nums m - al nums (i + 1)) := by rw [← Nat.pow_add]; congr 1; omega
  have e2 : (hd' nums m + 2 ^ al nums m) % 2 ^ al nums (i + 1) = hd' nums (i + 1) := by rw [ea, Nat.add_mul_mod_self_left]; exact h1
  rw [← Nat.mod_mul_right_div_self, ← Nat.pow_add, ← e, e2]
  show (hd' nums i + wV nums i * 2 ^ al nums i) / 2 ^ al nums i = _
  rw [Nat.add_mul_div_right _ _ (Nat.pow_pos (by omega)), Nat.div_eq_of_lt h3, Nat.zero_add]
end
theorem numL_zeros (Z : Nat) (l : List UInt8) : numL (List.replicate Z 0 ++ l) = 256 ^ Z * numL l := by
  rw [numL_append]
  have : ∀ Z, numL (List.replicate Z 0) = 0 := by
    intro Z
    induction Z with
    | zero => rfl
    | succ Z ih => rw [List.replicate_succ, numL, ih]; rfl
  rw [this, List.length_replicate, Nat.zero_add]
theorem strm_zeros (Z : Nat) (l : List UInt8) (p N : Nat) : List.replicate Z 0 ++ strm l p N = strm (List.replicate Z 0 ++ l) p N := by simp [strm]
theorem num_zeros (Z : Nat) (l : List UInt8) (p N : Nat) (h : p < 2 ^ N) (hN : N ≤ 7) : numL (strm (List.replicate Z 0 ++ l) p N) = 2 ^ (8 * Z) * (numL l + 256 ^ l.length * p + 2 ^ (8 * l.length + N)) := by
  have e1 : 256 ^ (Z + l.length) = 2 ^ (8 * Z) * 256 ^ l.length := by rw [Nat.pow_add, pow256]
  have e2 : 2 ^ (8 * (Z + l.length) + N) = 2 ^ (8 * Z) * 2 ^ (8 * l.length + N) := by rw [← Nat.pow_add]; congr 1; omega
  rw [strm_num _ _ _ h hN, numL_zeros, List.length_append, List.length_replicate, e1, e2, pow256 Z, Nat.mul_add, Nat.mul_add, Nat.mul_assoc]
theorem zeros_div (a Z x t : Nat) : 2 ^ (8 * Z) * a / 2 ^ (8 * Z + x) % 2 ^ t = a / 2 ^ x % 2 ^ t := by
  rw [Nat.pow_add, Nat.mul_div_mul_left _ _ (Nat.pow_pos (by omega))]
/-! ### Bytes as a string -/
theorem bok : EncOk (encI .u8) 1 := encI_ok .u8
theorem unB_flat : ∀ l : List Int, unB (l.flatMap (encI .u8)) = some (l.map fun x => UInt8.ofNat x.toNat)
  | [] => rfl
  | x :: l => by
    have := unB_flat l
    rw [List.flatMap_cons]
    show unB (.v (.int .u8 x) :: l.flatMap (encI .u8)) = _
    rw [unB, this]; rfl
theorem x_str {f : Fr} {h : Hp} {a : Operand} {s : AV} {l : List Int} (hS : Elts (encI .u8) 1 h s l) (ha : ev f a = s) : exL Try.prog f h (.convert 42 9 a) = some (St (l.map fun x => UInt8.ofNat x.toNat)) := by
  have h1 := (sliOf_spec sl_42).1
  have h2 := strTy_spec st_9
  rcases hS with ⟨rfl, rfl⟩ | ⟨i, o, c, u, cs, t, ow, rfl, h3, h4, h5⟩
  · simp [exL, ha, cnv, h1, h2, u_5]
  · rw [Nat.mul_one] at h4 h5
    simp [exL, ha, cnv, h1, h2, u_5, h3, h4, h5, unB_flat]
theorem mk_42 : mkOf Try.prog 42 = some (5, [.v (.int .u8 0)], 1) := by kernel_rfl
instance : CM Try.prog 42 5 [.v (.int .u8 0)] 1 := ⟨mk_42⟩
structure TuB where
  j : Nat
  G : Hp
theorem law4 (z : Int) (h : Hp) (sq : AV) (nums : List Int) (hS : Elts (encI .i64) 1 h sq nums) (hwz : (Lit.int .i64 z).wf = true) (hwn : ∀ x ∈ nums, IntKind.i64.min ≤ x ∧ x ≤ IntKind.i64.max) : ACalls Try.prog 4 [sq, I z] h (fun r _ => r = B true) := by
  have e0 := mkEL (encI_ok .i64) (0 : Int) hS
  have m1 := modA z 10 (by omega) (by omega) hwz
  have q0 := Int.emod_nonneg z (show (10 : Int) ≠ 0 by omega)
  have q1 := Int.emod_lt_of_pos z (show (0 : Int) < 10 by omega)
  obtain ⟨Z, hZ⟩ : ∃ Z : Nat, z % 10 = (Z : Int) := ⟨(z % 10).toNat, by omega⟩
  rw [hZ] at m1 q1
  have hwf : ∀ j, (Lit.int .i64 (nums.getD j 0)).wf = true := fun j => by
    simp only [Lit.wf, Bool.and_eq_true, decide_eq_true_eq]
    by_cases hj : j < nums.length
    · rw [List.getD_eq_getElem?_getD, List.getElem?_eq_getElem hj]
      exact hwn _ (List.getElem_mem hj)
    · rw [List.getD_eq_getElem?_getD, List.getElem?_eq_none (by omega)]; exact ⟨by decide, by decide⟩
  have hwd : ∀ j, nums.getD j 0 % 33 = (wK nums j : Int) := fun j => by unfold wK; omega
  obtain ⟨m, hm12⟩ : ∃ m, m = min nums.length 12 := ⟨_, rfl⟩
  refine acalls_of_wk hm Try.func4 rfl ?_
  simp only [Try.ntmps4, List.length_cons, List.length_nil, Nat.reduceAdd, Nat.reduceSub, List.reduceReplicate, List.cons_append, List.nil_append]
  show wk _ _ none _ _ ⟨_, []⟩ _
  with_reducible refine s_seq ?_
  with_reducible refine s_reg ?_
  refine sassign ?_
  simp only [pu', p0', c1', c0', i1', z0', b8_nat]
  with_reducible refine s_end ?_
  with_reducible refine s_then ?_
  with_reducible refine s_seq ?_
  with_reducible refine s_reg ?_
  refine salloc ?_
  simp only [pu', p0', c1', c0', i1', n0', n3', n1', n2', a2', a1', a0', n4', Nat.reduceAdd, z0', n5', sa0, sa1, sa2, sa3, sa4, sa5, sa6, sa7, sa8, sa9, sa10, sa11]
  with_reducible refine s_end ?_
  with_reducible refine s_then ?_
  with_reducible refine s_seq ?_
  with_reducible refine s_reg ?_
  refine sassign ?_
  simp only [pu', p0', c1', c0', i1', z0', b8_nat]
  refine sassign ?_
  simp only [pu', p0', c1', c0', i1', z0', b8_nat]
  with_reducible refine s_end ?_
  with_reducible refine s_then ?_
  with_reducible refine s_seq ?_
  with_reducible refine s_block ?_
  refine s_loop hm (fun (b : TuB) s' => [sq, I z, s' 2, s' 3, s' 4, .ptr h.length 0, I (al nums b.j), I b.j, s' 8, s' 9, s' 10, s' 11, s' 12, s' 13, s' 14, s' 15, s' 16, s' 17, s' 18, s' 19, s' 20, s' 21, s' 22, s' 23, s' 24, s' 25, s' 26, s' 27, s' 28, s' 29, s' 30, s' 31, s' 32, s' 33, s' 34, s' 35, s' 36, s' 37, s' 38, s' 39, s' 40, s' 41, s' 42, s' 43, s' 44, s' 45, s' 46, s' 47, s' 48, s' 49, s' 50, s' 51, s' 52, s' 53, s' 54, s' 55, s' 56, s' 57, s' 58, s' 59, s' 60, s' 61, s' 62, s' 63, s' 64, s' 65, s' 66, s' 67, s' 68, s' 69, s' 70, s' 71, s' 72, s' 73, s' 74, s' 75, s' 76, s' 77, s' 78, s' 79, s' 80, s' 81, s' 82, s' 83, s' 84, s' 85, s' 86, s' 87, s' 88, s' 89, s' 90, s' 91, s' 92, s' 93, s' 94, s' 95, s' 96, s' 97, s' 98, s' 99, s' 100, s' 101, s' 102, s' 103, s' 104, s' 105, s' 106, s' 107, s' 108, s' 109, s' 110, s' 111, s' 112, s' 113, s' 114, s' 115, s' 116, s' 117, s' 118, s' 119, s' 120, s' 121, s' 122, s' 123, s' 124, s' 125, s' 126, s' 127, s' 128, s' 129, s' 130, s' 131, s' 132, s' 133, s' 134]) (fun b => b.G) (fun b => b.j ≤ m ∧ Sep h b.G [pcC h.length (.cells [St (wr nums b.j).l, I (wr nums b.j).p, I (wr nums b.j).N] 23 true)]) (fun b => m - b.j) ⟨0, _⟩ (by rfl) rfl ⟨Nat.zero_le _, Sep.lits h [_]⟩ ?_
  rintro ⟨j, G⟩ s' ⟨hj, S⟩
  simp only [] at hj S ⊢
  obtain ⟨g1, g2, g3, g4, g5⟩ := wr_ok nums j
  by_cases hjm : j < m
  · have w1 := widthA (nums.getD j 0) (hwf j)
    rw [hwd] at w1
    have hK := wK_le nums j
    have hV := wV_lt nums j
    have v1 := valueA (nums.getD j 0) (wK nums j) (hwf j) hK
    have p1 := putA (wr nums j).l (wr nums j).p (wr nums j).N (wK nums j) (wV nums j) g1 g2 hK hV (by omega)
    focus
      with_reducible refine s_seq ?_
      with_reducible refine s_seq ?_
      with_reducible refine s_reg ?_
      refine smove ?_
      simp only [pu', p0', c1', c0', i1', z0', b8_nat]
      refine smove ?_
      simp only [pu', p0', c1', c0', i1', z0', b8_nat]
      refine slenE ?_
      simp only [pu', p0', c1', c0', i1', z0', b8_nat]
      refine sLt (fun hb => ?_) (fun hb => ?_)
      replace hb := dT' hb
      simp only [pu', p0', c1', c0', i1', z0', b8_nat]
      refine smove ?_
      simp only [pu', p0', c1', c0', i1', z0', b8_nat]
      refine smove ?_
      simp only [pu', p0', c1', c0', i1', z0', b8_nat]
      refine sLt (fun hb => ?_) (fun hb => ?_)
      replace hb := dT' hb
      simp only [pu', p0', c1', c0', i1', z0', b8_nat]
      refine spickT ?_
      simp only [pu', p0', c1', c0', i1', z0', b8_nat]
      with_reducible refine s_end ?_
      with_reducible refine s_then ?_
      refine sCT ?_
      with_reducible refine s_skip ?_
      with_reducible refine s_then ?_
      with_reducible refine s_seq ?_
      with_reducible refine s_block ?_
      with_reducible refine s_seq ?_
      with_reducible refine s_reg ?_
      refine smove ?_
      simp only [pu', p0', c1', c0', i1', z0', b8_nat]
      refine smove ?_
      simp only [pu', p0', c1', c0', i1', z0', b8_nat]
      refine sidxE ?_
      simp only [pu', p0', c1', c0', i1', z0', b8_nat]
      refine sloadE1 ?_
      simp only [pu', p0', c1', c0', i1', z0', b8_nat]
      refine sK (hx := rfl) (w1) ?_
      simp only [pu', p0', c1', c0', i1', z0', b8_nat]
      refine sassign ?_
      simp only [pu', p0', c1', c0', i1', z0', b8_nat]
      with_reducible refine s_end ?_
      with_reducible refine s_then ?_
      with_reducible refine s_seq ?_
      (refine s_regT (id := 6) (.light 0 (.light 1 (.light 2 (.light 3 (.light 4 (.light 6 (.alt 5 [4] (.alt 7 [4, 6] (.alt 8 [0, 1, 4, 6] (.light 9 (.light 10 (.light 11 (.alt 12 [0, 1, 4, 6] (.alt 13 [0, 1, 2, 3, 4, 6, 9, 10] (.light 14 (.done)) (.no)) (.no))))) (.alt 12 [4, 6] (.alt 8 [0, 1, 4, 6] (.light 9 (.light 10 (.light 11 (.alt 13 [0, 1, 2, 3, 4, 6, 9, 10] (.light 14 (.done)) (.no))))) (.no)) (.no))) (.alt 12 [4] (.alt 7 [4, 6] (.alt 8 [0, 1, 4, 6] (.light 9 (.light 10 (.light 11 (.alt 13 [0, 1, 2, 3, 4, 6, 9, 10] (.light 14 (.done)) (.no))))) (.no)) (.no)) (.no))) (.alt 12 [] (.alt 5 [4] (.alt 7 [4, 6] (.alt 8 [0, 1, 4, 6] (.light 9 (.light 10 (.light 11 (.alt 13 [0, 1, 2, 3, 4, 6, 9, 10] (.light 14 (.done)) (.no))))) (.no)) (.no)) (.no)) (.no))))))))) [5, 7, 8, 12, 13] (by kernel_rfl) (by conv => lhs; simp only [pickT, List.getElem?_cons_succ, List.getElem?_cons_zero]) ?_)
      refine tloadW ?_
      simp only [pu', p0', c1', c0', i1', z0', b8_nat]
      refine tmove ?_
      simp only [pu', p0', c1', c0', i1', z0', b8_nat]
      refine tmove ?_
      simp only [pu', p0', c1', c0', i1', z0', b8_nat]
      refine tmove ?_
      simp only [pu', p0', c1', c0', i1', z0', b8_nat]
      refine tidxE ?_
      simp only [pu', p0', c1', c0', i1', z0', b8_nat]
      refine tmove ?_
      simp only [pu', p0', c1', c0', i1', z0', b8_nat]
      with_reducible refine u_both ?_ ?_
      refine uloadE1 ?_
      simp only [pu', p0', c1', c0', i1', z0', b8_nat]
      with_reducible refine u_both ?_ ?_
      refine uK (hx := rfl) (v1) ?_
      simp only [pu', p0', c1', c0', i1', z0', b8_nat]
      with_reducible refine u_both ?_ ?_
      refine uK (hx := rfl) (p1) ?_
      simp only [pu', p0', c1', c0', i1', z0', b8_nat]
      refine tmove ?_
      simp only [pu', p0', c1', c0', i1', z0', b8_nat]
      refine text ?_
      simp only [pu', p0', c1', c0', i1', z0', b8_nat]
      refine text ?_
      simp only [pu', p0', c1', c0', i1', z0', b8_nat]
      refine ualloc ?_
      simp only [pu', p0', c1', c0', i1', n0', n3', n1', n2', a2', a1', a0', n4', Nat.reduceAdd, z0', n5', sa0, sa1, sa2, sa3, sa4, sa5, sa6, sa7, sa8, sa9, sa10, sa11]
      refine ustoreF ?_
      simp only [pu', p0', c1', c0', i1', n0', n3', n1', n2', a2', a1', a0', n4', Nat.reduceAdd, z0', n5', sa0, sa1, sa2, sa3, sa4, sa5, sa6, sa7, sa8, sa9, sa10, sa11]
      refine tassign ?_
      simp only [pu', p0', c1', c0', i1', z0', b8_nat]
      with_reducible refine t_end ?_
      with_reducible refine s_then ?_
      with_reducible refine s_seq ?_
      with_reducible refine s_seq ?_
      with_reducible refine s_reg ?_
      refine smove ?_
      simp only [pu', p0', c1', c0', i1', z0', b8_nat]
      refine sNe (fun hb => ?_) (fun hb => ?_)
      replace hb := dT' hb
      (exfalso; omega)
      replace hb := dF' hb
      simp only [pu', p0', c1', c0', i1', z0', b8_nat]
      with_reducible refine s_end ?_
      with_reducible refine s_then ?_
      refine sCF ?_
      with_reducible refine s_skip ?_
      with_reducible refine s_then ?_
      with_reducible refine s_reg ?_
      refine sloadW ?_
      simp only [pu', p0', c1', c0', i1', z0', b8_nat]
      refine smove ?_
      simp only [pu', p0', c1', c0', i1', z0', b8_nat]
      refine smove ?_
      simp only [pu', p0', c1', c0', i1', z0', b8_nat]
      refine sadd ?_
      simp only [pu', p0', c1', c0', i1', z0', b8_nat]
      refine sstoreF ?_
      simp only [pu', p0', c1', c0', i1', n0', n3', n1', n2', a2', a1', a0', n4', Nat.reduceAdd, z0', n5', sa0, sa1, sa2, sa3, sa4, sa5, sa6, sa7, sa8, sa9, sa10, sa11]
      refine sassign ?_
      simp only [pu', p0', c1', c0', i1', z0', b8_nat]
      with_reducible refine s_end ?_
      with_reducible refine s_blkN ?_
      with_reducible refine s_then ?_
      with_reducible refine s_reg ?_
      refine smove ?_
      simp only [pu', p0', c1', c0', i1', z0', b8_nat]
      refine sadd ?_
      simp only [pu', p0', c1', c0', i1', z0', b8_nat]
      refine sassign ?_
      simp only [pu', p0', c1', c0', i1', z0', b8_nat]
      with_reducible refine s_end ?_
      rotate_left 1
      refine ualloc ?_
      simp only [pu', p0', c1', c0', i1', n0', n3', n1', n2', a2', a1', a0', n4', Nat.reduceAdd, z0', n5', sa0, sa1, sa2, sa3, sa4, sa5, sa6, sa7, sa8, sa9, sa10, sa11]
      refine uK (hx := rfl) (p1) ?_
      simp only [pu', p0', c1', c0', i1', z0', b8_nat]
      refine tmove ?_
      simp only [pu', p0', c1', c0', i1', z0', b8_nat]
      refine text ?_
      simp only [pu', p0', c1', c0', i1', z0', b8_nat]
      refine text ?_
      simp only [pu', p0', c1', c0', i1', z0', b8_nat]
      refine ustoreF ?_
      simp only [pu', p0', c1', c0', i1', n0', n3', n1', n2', a2', a1', a0', n4', Nat.reduceAdd, z0', n5', sa0, sa1, sa2, sa3, sa4, sa5, sa6, sa7, sa8, sa9, sa10, sa11]
      refine tassign ?_
      simp only [pu', p0', c1', c0', i1', z0', b8_nat]
      with_reducible refine t_end ?_
      with_reducible refine s_then ?_
      with_reducible refine s_seq ?_
      with_reducible refine s_seq ?_
      with_reducible refine s_reg ?_
      refine smove ?_
      simp only [pu', p0', c1', c0', i1', z0', b8_nat]
      refine sNe (fun hb => ?_) (fun hb => ?_)
      replace hb := dT' hb
      (exfalso; omega)
      replace hb := dF' hb
      simp only [pu', p0', c1', c0', i1', z0', b8_nat]
      with_reducible refine s_end ?_
      with_reducible refine s_then ?_
      refine sCF ?_
      with_reducible refine s_skip ?_
      with_reducible refine s_then ?_
      with_reducible refine s_reg ?_
      refine sloadW ?_
      simp only [pu', p0', c1', c0', i1', z0', b8_nat]
      refine smove ?_
      simp only [pu', p0', c1', c0', i1', z0', b8_nat]
      refine smove ?_
      simp only [pu', p0', c1', c0', i1', z0', b8_nat]
      refine sadd ?_
      simp only [pu', p0', c1', c0', i1', z0', b8_nat]
      refine sstoreF ?_
      simp only [pu', p0', c1', c0', i1', n0', n3', n1', n2', a2', a1', a0', n4', Nat.reduceAdd, z0', n5', sa0, sa1, sa2, sa3, sa4, sa5, sa6, sa7, sa8, sa9, sa10, sa11]
      refine sassign ?_
      simp only [pu', p0', c1', c0', i1', z0', b8_nat]
      with_reducible refine s_end ?_
      with_reducible refine s_blkN ?_
      with_reducible refine s_then ?_
      with_reducible refine s_reg ?_
      refine smove ?_
      simp only [pu', p0', c1', c0', i1', z0', b8_nat]
      refine sadd ?_
      simp only [pu', p0', c1', c0', i1', z0', b8_nat]
      refine sassign ?_
      simp only [pu', p0', c1', c0', i1', z0', b8_nat]
      with_reducible refine s_end ?_
      rotate_left 1
      refine ualloc ?_
      simp only [pu', p0', c1', c0', i1', n0', n3', n1', n2', a2', a1', a0', n4', Nat.reduceAdd, z0', n5', sa0, sa1, sa2, sa3, sa4, sa5, sa6, sa7, sa8, sa9, sa10, sa11]
      refine uK (hx := rfl) (v1) ?_
      simp only [pu', p0', c1', c0', i1', z0', b8_nat]
      refine uK (hx := rfl) (p1) ?_
      simp only [pu', p0', c1', c0', i1', z0', b8_nat]
      refine tmove ?_
      simp only [pu', p0', c1', c0', i1', z0', b8_nat]
      refine text ?_
      simp only [pu', p0', c1', c0', i1', z0', b8_nat]
      refine text ?_
      simp only [pu', p0', c1', c0', i1', z0', b8_nat]
      refine ustoreF ?_
      simp only [pu', p0', c1', c0', i1', n0', n3', n1', n2', a2', a1', a0', n4', Nat.reduceAdd, z0', n5', sa0, sa1, sa2, sa3, sa4, sa5, sa6, sa7, sa8, sa9, sa10, sa11]
      refine tassign ?_
      simp only [pu', p0', c1', c0', i1', z0', b8_nat]
      with_reducible refine t_end ?_
      with_reducible refine s_then ?_
      with_reducible refine s_seq ?_
      with_reducible refine s_seq ?_
      with_reducible refine s_reg ?_
      refine smove ?_
      simp only [pu', p0', c1', c0', i1', z0', b8_nat]
      refine sNe (fun hb => ?_) (fun hb => ?_)
      replace hb := dT' hb
      (exfalso; omega)
      replace hb := dF' hb
      simp only [pu', p0', c1', c0', i1', z0', b8_nat]
      with_reducible refine s_end ?_
      with_reducible refine s_then ?_
      refine sCF ?_
      with_reducible refine s_skip ?_
      with_reducible refine s_then ?_
      with_reducible refine s_reg ?_
      refine sloadW ?_
      simp only [pu', p0', c1', c0', i1', z0', b8_nat]
      refine smove ?_
      simp only [pu', p0', c1', c0', i1', z0', b8_nat]
      refine smove ?_
      simp only [pu', p0', c1', c0', i1', z0', b8_nat]
      refine sadd ?_
      simp only [pu', p0', c1', c0', i1', z0', b8_nat]
      refine sstoreF ?_
      simp only [pu', p0', c1', c0', i1', n0', n3', n1', n2', a2', a1', a0', n4', Nat.reduceAdd, z0', n5', sa0, sa1, sa2, sa3, sa4, sa5, sa6, sa7, sa8, sa9, sa10, sa11]
      refine sassign ?_
      simp only [pu', p0', c1', c0', i1', z0', b8_nat]
      with_reducible refine s_end ?_
      with_reducible refine s_blkN ?_
      with_reducible refine s_then ?_
      with_reducible refine s_reg ?_
      refine smove ?_
      simp only [pu', p0', c1', c0', i1', z0', b8_nat]
      refine sadd ?_
      simp only [pu', p0', c1', c0', i1', z0', b8_nat]
      refine sassign ?_
      simp only [pu', p0', c1', c0', i1', z0', b8_nat]
      with_reducible refine s_end ?_
      rotate_left 1
      refine ualloc ?_
      simp only [pu', p0', c1', c0', i1', n0', n3', n1', n2', a2', a1', a0', n4', Nat.reduceAdd, z0', n5', sa0, sa1, sa2, sa3, sa4, sa5, sa6, sa7, sa8, sa9, sa10, sa11]
      refine uloadE1 ?_
      simp only [pu', p0', c1', c0', i1', z0', b8_nat]
      refine uK (hx := rfl) (v1) ?_
      simp only [pu', p0', c1', c0', i1', z0', b8_nat]
      refine uK (hx := rfl) (p1) ?_
      simp only [pu', p0', c1', c0', i1', z0', b8_nat]
      refine tmove ?_
      simp only [pu', p0', c1', c0', i1', z0', b8_nat]
      refine text ?_
      simp only [pu', p0', c1', c0', i1', z0', b8_nat]
      refine text ?_
      simp only [pu', p0', c1', c0', i1', z0', b8_nat]
      refine ustoreF ?_
      simp only [pu', p0', c1', c0', i1', n0', n3', n1', n2', a2', a1', a0', n4', Nat.reduceAdd, z0', n5', sa0, sa1, sa2, sa3, sa4, sa5, sa6, sa7, sa8, sa9, sa10, sa11]
      refine tassign ?_
      simp only [pu', p0', c1', c0', i1', z0', b8_nat]
      with_reducible refine t_end ?_
      with_reducible refine s_then ?_
      with_reducible refine s_seq ?_
      with_reducible refine s_seq ?_
      with_reducible refine s_reg ?_
      refine smove ?_
      simp only [pu', p0', c1', c0', i1', z0', b8_nat]
      refine sNe (fun hb => ?_) (fun hb => ?_)
      replace hb := dT' hb
      (exfalso; omega)
      replace hb := dF' hb
      simp only [pu', p0', c1', c0', i1', z0', b8_nat]
      with_reducible refine s_end ?_
      with_reducible refine s_then ?_
      refine sCF ?_
      with_reducible refine s_skip ?_
      with_reducible refine s_then ?_
      with_reducible refine s_reg ?_
      refine sloadW ?_
      simp only [pu', p0', c1', c0', i1', z0', b8_nat]
      refine smove ?_
      simp only [pu', p0', c1', c0', i1', z0', b8_nat]
      refine smove ?_
      simp only [pu', p0', c1', c0', i1', z0', b8_nat]
      refine sadd ?_
      simp only [pu', p0', c1', c0', i1', z0', b8_nat]
      refine sstoreF ?_
      simp only [pu', p0', c1', c0', i1', n0', n3', n1', n2', a2', a1', a0', n4', Nat.reduceAdd, z0', n5', sa0, sa1, sa2, sa3, sa4, sa5, sa6, sa7, sa8, sa9, sa10, sa11]
      refine sassign ?_
      simp only [pu', p0', c1', c0', i1', z0', b8_nat]
      with_reducible refine s_end ?_
      with_reducible refine s_blkN ?_
      with_reducible refine s_then ?_
      with_reducible refine s_reg ?_
      refine smove ?_
      simp only [pu', p0', c1', c0', i1', z0', b8_nat]
      refine sadd ?_
      simp only [pu', p0', c1', c0', i1', z0', b8_nat]
      refine sassign ?_
      simp only [pu', p0', c1', c0', i1', z0', b8_nat]
      with_reducible refine s_end ?_
      rotate_left 1
      replace hb := dF' hb
      (exfalso; omega)
      replace hb := dF' hb
      (exfalso; omega)
    all_goals
      refine l_next ⟨j + 1, _⟩ ⟨by simp only []; omega, ?_⟩ (by simp only []; omega) (by rfl) (by rfl)
      simp only []
      exact Sep.sub inferInstance (by repeat' first | exact List.Sublist.refl _ | exact List.sublist_append_left _ _ | exact List.nil_sublist _ | refine List.Sublist.cons_cons _ ?_ | refine List.Sublist.cons _ ?_ | refine List.Sublist.trans ?_ (List.sublist_append_left _ _))
  · obtain rfl : j = m := by omega
    have d1 := doneA (wr nums j).l (wr nums j).p (wr nums j).N g1 g2 (by omega)
    change ACalls Try.prog 14 [_] [] (fun r _ => r = .tup [St (strm (wr nums j).l (wr nums j).p (wr nums j).N), I 0] ∧ r.sc 0 = true) at d1
    have b1 := bitsA (wr nums j).l (wr nums j).p (wr nums j).N g1 g2 (by omega)
    rw [g3] at b1
    have hrl : (List.replicate Z (0 : UInt8)).length = Z := List.length_replicate
    have hsl := strm_len (wr nums j).l (wr nums j).p (wr nums j).N
    have r1 := readA (List.replicate Z 0 ++ (wr nums j).l) (wr nums j).p (wr nums j).N g1 g2 (by rw [List.length_append, List.length_replicate]; omega)
    have t1 := fun L K => takeA (List.replicate Z 0 ++ (wr nums j).l) (wr nums j).p (wr nums j).N L K g1 g2 (by rw [List.length_append, List.length_replicate]; omega)
    have nz := num_zeros Z (wr nums j).l (wr nums j).p (wr nums j).N g1 g2
    rw [g4, g3] at nz
    have hzl : 8 * (List.replicate Z (0 : UInt8) ++ (wr nums j).l).length + (wr nums j).N = 8 * Z + al nums j := by rw [List.length_append, List.length_replicate]; omega
    rw [hzl] at r1 t1
    rw [nz] at t1
    have hsz := strm_zeros Z (wr nums j).l (wr nums j).p (wr nums j).N
    rw [← hsz] at r1 t1
    have hzm : (List.replicate Z (0 : Int)).map (fun x => UInt8.ofNat x.toNat) = List.replicate Z 0 := by simp
    generalize hs0 : strm (wr nums j).l (wr nums j).p (wr nums j).N = s0 at *
    focus
      with_reducible refine s_seq ?_
      with_reducible refine s_seq ?_
      with_reducible refine s_reg ?_
      refine smove ?_
      simp only [pu', p0', c1', c0', i1', z0', b8_nat]
      refine smove ?_
      simp only [pu', p0', c1', c0', i1', z0', b8_nat]
      refine slenE ?_
      simp only [pu', p0', c1', c0', i1', z0', b8_nat]
      refine sLt (fun hb => ?_) (fun hb => ?_)
      replace hb := dT' hb
      simp only [pu', p0', c1', c0', i1', z0', b8_nat]
      refine smove ?_
      simp only [pu', p0', c1', c0', i1', z0', b8_nat]
      refine smove ?_
      simp only [pu', p0', c1', c0', i1', z0', b8_nat]
      refine sLt (fun hb => ?_) (fun hb => ?_)
      replace hb := dT' hb
      (exfalso; omega)
      replace hb := dF' hb
      simp only [pu', p0', c1', c0', i1', z0', b8_nat]
      refine spickT ?_
      simp only [pu', p0', c1', c0', i1', z0', b8_nat]
      with_reducible refine s_end ?_
      with_reducible refine s_then ?_
      refine sCF ?_
      with_reducible refine s_exit ?_
      with_reducible refine s_thenE ?_
      with_reducible refine l_exit ?_
      with_reducible refine s_blkE ?_
      with_reducible refine s_then ?_
      with_reducible refine s_seq ?_
      with_reducible refine s_reg ?_
      refine sloadW ?_
      simp only [pu', p0', c1', c0', i1', z0', b8_nat]
      refine sK (hx := rfl) (d1) ?_
      simp only [pu', p0', c1', c0', i1', z0', b8_nat]
      refine smove ?_
      simp only [pu', p0', c1', c0', i1', z0', b8_nat]
      refine sext ?_
      simp only [pu', p0', c1', c0', i1', z0', b8_nat]
      refine sext ?_
      simp only [pu', p0', c1', c0', i1', z0', b8_nat]
      refine sassign ?_
      simp only [pu', p0', c1', c0', i1', z0', b8_nat]
      refine sassign ?_
      simp only [pu', p0', c1', c0', i1', z0', b8_nat]
      with_reducible refine s_end ?_
      with_reducible refine s_then ?_
      with_reducible refine s_seq ?_
      with_reducible refine s_reg ?_
      refine smove ?_
      simp only [pu', p0', c1', c0', i1', z0', b8_nat]
      refine sK (hx := rfl) (b1) ?_
      simp only [pu', p0', c1', c0', i1', z0', b8_nat]
      refine smove ?_
      simp only [pu', p0', c1', c0', i1', z0', b8_nat]
      refine sext ?_
      simp only [pu', p0', c1', c0', i1', z0', b8_nat]
      refine sext ?_
      simp only [pu', p0', c1', c0', i1', z0', b8_nat]
      refine sassign ?_
      simp only [pu', p0', c1', c0', i1', z0', b8_nat]
      refine sassign ?_
      simp only [pu', p0', c1', c0', i1', z0', b8_nat]
      with_reducible refine s_end ?_
      with_reducible refine s_then ?_
      with_reducible refine s_seq ?_
      with_reducible refine s_seq ?_
      with_reducible refine s_reg ?_
      refine smove ?_
      simp only [pu', p0', c1', c0', i1', z0', b8_nat]
      refine sNe (fun hb => ?_) (fun hb => ?_)
      replace hb := dT' hb
      (exfalso; omega)
      replace hb := dF' hb
      simp only [pu', p0', c1', c0', i1', z0', b8_nat]
      refine smove ?_
      simp only [pu', p0', c1', c0', i1', z0', b8_nat]
      refine smove ?_
      simp only [pu', p0', c1', c0', i1', z0', b8_nat]
      refine sNe (fun hb => ?_) (fun hb => ?_)
      replace hb := dT' hb
      (exfalso; omega)
      replace hb := dF' hb
      simp only [pu', p0', c1', c0', i1', z0', b8_nat]
      refine spickF ?_
      simp only [pu', p0', c1', c0', i1', z0', b8_nat]
      refine smove ?_
      simp only [pu', p0', c1', c0', i1', z0', b8_nat]
      refine smove ?_
      simp only [pu', p0', c1', c0', i1', z0', b8_nat]
      refine slenS ?_
      simp only [pu', p0', c1', c0', i1', z0', b8_nat]
      refine smove ?_
      simp only [pu', p0', c1', c0', i1', z0', b8_nat]
      refine squo ?_
      simp only [pu', p0', c1', c0', i1', z0', b8_nat]
      refine sadd ?_
      simp only [pu', p0', c1', c0', i1', z0', b8_nat]
      refine sNe (fun hb => ?_) (fun hb => ?_)
      replace hb := dT' hb
      (exfalso; omega)
      replace hb := dF' hb
      simp only [pu', p0', c1', c0', i1', z0', b8_nat]
      refine spickF ?_
      simp only [pu', p0', c1', c0', i1', z0', b8_nat]
      refine smove ?_
      simp only [pu', p0', c1', c0', i1', z0', b8_nat]
      refine smove ?_
      simp only [pu', p0', c1', c0', i1', z0', b8_nat]
      refine smove ?_
      simp only [pu', p0', c1', c0', i1', z0', b8_nat]
      refine sNe (fun hb => ?_) (fun hb => ?_)
      replace hb := dT' hb
      (exfalso; omega)
      replace hb := dF' hb
      simp only [pu', p0', c1', c0', i1', z0', b8_nat]
      refine spickF ?_
      simp only [pu', p0', c1', c0', i1', z0', b8_nat]
      with_reducible refine s_end ?_
      with_reducible refine s_then ?_
      refine sCF ?_
      with_reducible refine s_skip ?_
      with_reducible refine s_then ?_
      with_reducible refine s_seq ?_
      with_reducible refine s_reg ?_
      refine smove ?_
      simp only [pu', p0', c1', c0', i1', z0', b8_nat]
      refine sK (hx := rfl) (m1) ?_
      simp only [pu', p0', c1', c0', i1', z0', b8_nat]
      (refine s_mks (n := (Z : Int)) (encI .u8) (0 : Int) (fun z' Y' pz S5 => ?_) inferInstance bok inferInstance rfl (by omega) (by omega) (by omega); simp only [i1'] at S5; simp only [Fr.put, List.set_cons_succ, List.set_cons_zero, Int.toNat_natCast, Nat.zero_add])
      (refine s_gL (by rfl) (x_str (Own.elts (S5.own 1 rfl)) (by exact e_any (by rfl))) ?_; rw [hzm]; simp only [Fr.put, List.set_cons_succ, List.set_cons_zero, Int.toNat_natCast, Nat.zero_add])
      refine smove ?_
      simp only [pu', p0', c1', c0', i1', z0', b8_nat]
      refine saddS ?_
      simp only [pu', p0', c1', c0', i1', z0', b8_nat]
      refine sK (hx := rfl) (r1) ?_
      simp only [pu', p0', c1', c0', i1', z0', b8_nat]
      refine smove ?_
      simp only [pu', p0', c1', c0', i1', z0', b8_nat]
      refine sext ?_
      simp only [pu', p0', c1', c0', i1', z0', b8_nat]
      refine sext ?_
      simp only [pu', p0', c1', c0', i1', z0', b8_nat]
      refine salloc ?_
      simp only [pu', p0', c1', c0', i1', n0', n3', n1', n2', a2', a1', a0', n4', Nat.reduceAdd, z0', n5', sa0, sa1, sa2, sa3, sa4, sa5, sa6, sa7, sa8, sa9, sa10, sa11]
      refine sstoreF ?_
      simp only [pu', p0', c1', c0', i1', n0', n3', n1', n2', a2', a1', a0', n4', Nat.reduceAdd, z0', n5', sa0, sa1, sa2, sa3, sa4, sa5, sa6, sa7, sa8, sa9, sa10, sa11]
      refine sassign ?_
      simp only [pu', p0', c1', c0', i1', z0', b8_nat]
      with_reducible refine s_end ?_
      with_reducible refine s_then ?_
      with_reducible refine s_seq ?_
      with_reducible refine s_seq ?_
      with_reducible refine s_reg ?_
      refine smove ?_
      simp only [pu', p0', c1', c0', i1', z0', b8_nat]
      refine sNe (fun hb => ?_) (fun hb => ?_)
      replace hb := dT' hb
      (exfalso; omega)
      replace hb := dF' hb
      simp only [pu', p0', c1', c0', i1', z0', b8_nat]
      with_reducible refine s_end ?_
      with_reducible refine s_then ?_
      refine sCF ?_
      with_reducible refine s_skip ?_
      with_reducible refine s_then ?_
      with_reducible refine s_seq ?_
      with_reducible refine s_seq ?_
      with_reducible refine s_reg ?_
      refine smove ?_
      simp only [pu', p0', c1', c0', i1', z0', b8_nat]
      refine ssub ?_
      simp only [pu', p0', c1', c0', i1', z0', b8_nat]
      refine sassign ?_
      simp only [pu', p0', c1', c0', i1', z0', b8_nat]
      with_reducible refine s_end ?_
      with_reducible refine s_then ?_
      with_reducible refine s_block ?_
      rotate_left 1
      replace hb := dF' hb
      simp only [pu', p0', c1', c0', i1', z0', b8_nat]
      refine smove ?_
      simp only [pu', p0', c1', c0', i1', z0', b8_nat]
      refine sN ?_
      simp only [pu', p0', c1', c0', i1', z0', b8_nat]
      refine sN ?_
      simp only [pu', p0', c1', c0', i1', z0', b8_nat]
      refine spickF ?_
      simp only [pu', p0', c1', c0', i1', z0', b8_nat]
      with_reducible refine s_end ?_
      with_reducible refine s_then ?_
      refine sCF ?_
      with_reducible refine s_exit ?_
      with_reducible refine s_thenE ?_
      with_reducible refine l_exit ?_
      with_reducible refine s_blkE ?_
      with_reducible refine s_then ?_
      with_reducible refine s_seq ?_
      with_reducible refine s_reg ?_
      refine sloadW ?_
      simp only [pu', p0', c1', c0', i1', z0', b8_nat]
      refine sK (hx := rfl) (d1) ?_
      simp only [pu', p0', c1', c0', i1', z0', b8_nat]
      refine smove ?_
      simp only [pu', p0', c1', c0', i1', z0', b8_nat]
      refine sext ?_
      simp only [pu', p0', c1', c0', i1', z0', b8_nat]
      refine sext ?_
      simp only [pu', p0', c1', c0', i1', z0', b8_nat]
      refine sassign ?_
      simp only [pu', p0', c1', c0', i1', z0', b8_nat]
      refine sassign ?_
      simp only [pu', p0', c1', c0', i1', z0', b8_nat]
      with_reducible refine s_end ?_
      with_reducible refine s_then ?_
      with_reducible refine s_seq ?_
      with_reducible refine s_reg ?_
      refine smove ?_
      simp only [pu', p0', c1', c0', i1', z0', b8_nat]
      refine sK (hx := rfl) (b1) ?_
      simp only [pu', p0', c1', c0', i1', z0', b8_nat]
      refine smove ?_
      simp only [pu', p0', c1', c0', i1', z0', b8_nat]
      refine sext ?_
      simp only [pu', p0', c1', c0', i1', z0', b8_nat]
      refine sext ?_
      simp only [pu', p0', c1', c0', i1', z0', b8_nat]
      refine sassign ?_
      simp only [pu', p0', c1', c0', i1', z0', b8_nat]
      refine sassign ?_
      simp only [pu', p0', c1', c0', i1', z0', b8_nat]
      with_reducible refine s_end ?_
      with_reducible refine s_then ?_
      with_reducible refine s_seq ?_
      with_reducible refine s_seq ?_
      with_reducible refine s_reg ?_
      refine smove ?_
      simp only [pu', p0', c1', c0', i1', z0', b8_nat]
      refine sNe (fun hb => ?_) (fun hb => ?_)
      replace hb := dT' hb
      (exfalso; omega)
      replace hb := dF' hb
      simp only [pu', p0', c1', c0', i1', z0', b8_nat]
      refine smove ?_
      simp only [pu', p0', c1', c0', i1', z0', b8_nat]
      refine smove ?_
      simp only [pu', p0', c1', c0', i1', z0', b8_nat]
      refine sNe (fun hb => ?_) (fun hb => ?_)
      replace hb := dT' hb
      (exfalso; omega)
      replace hb := dF' hb
      simp only [pu', p0', c1', c0', i1', z0', b8_nat]
      refine spickF ?_
      simp only [pu', p0', c1', c0', i1', z0', b8_nat]
      refine smove ?_
      simp only [pu', p0', c1', c0', i1', z0', b8_nat]
      refine smove ?_
      simp only [pu', p0', c1', c0', i1', z0', b8_nat]
      refine slenS ?_
      simp only [pu', p0', c1', c0', i1', z0', b8_nat]
      refine smove ?_
      simp only [pu', p0', c1', c0', i1', z0', b8_nat]
      refine squo ?_
      simp only [pu', p0', c1', c0', i1', z0', b8_nat]
      refine sadd ?_
      simp only [pu', p0', c1', c0', i1', z0', b8_nat]
      refine sNe (fun hb => ?_) (fun hb => ?_)
      replace hb := dT' hb
      (exfalso; omega)
      replace hb := dF' hb
      simp only [pu', p0', c1', c0', i1', z0', b8_nat]
      refine spickF ?_
      simp only [pu', p0', c1', c0', i1', z0', b8_nat]
      refine smove ?_
      simp only [pu', p0', c1', c0', i1', z0', b8_nat]
      refine smove ?_
      simp only [pu', p0', c1', c0', i1', z0', b8_nat]
      refine smove ?_
      simp only [pu', p0', c1', c0', i1', z0', b8_nat]
      refine sNe (fun hb => ?_) (fun hb => ?_)
      replace hb := dT' hb
      (exfalso; omega)
      replace hb := dF' hb
      simp only [pu', p0', c1', c0', i1', z0', b8_nat]
      refine spickF ?_
      simp only [pu', p0', c1', c0', i1', z0', b8_nat]
      with_reducible refine s_end ?_
      with_reducible refine s_then ?_
      refine sCF ?_
      with_reducible refine s_skip ?_
      with_reducible refine s_then ?_
      with_reducible refine s_seq ?_
      with_reducible refine s_reg ?_
      refine smove ?_
      simp only [pu', p0', c1', c0', i1', z0', b8_nat]
      refine sK (hx := rfl) (m1) ?_
      simp only [pu', p0', c1', c0', i1', z0', b8_nat]
      (refine s_mks (n := (Z : Int)) (encI .u8) (0 : Int) (fun z' Y' pz S5 => ?_) inferInstance bok inferInstance rfl (by omega) (by omega) (by omega); simp only [i1'] at S5; simp only [Fr.put, List.set_cons_succ, List.set_cons_zero, Int.toNat_natCast, Nat.zero_add])
      (refine s_gL (by rfl) (x_str (Own.elts (S5.own 1 rfl)) (by exact e_any (by rfl))) ?_; rw [hzm]; simp only [Fr.put, List.set_cons_succ, List.set_cons_zero, Int.toNat_natCast, Nat.zero_add])
      refine smove ?_
      simp only [pu', p0', c1', c0', i1', z0', b8_nat]
      refine saddS ?_
      simp only [pu', p0', c1', c0', i1', z0', b8_nat]
      refine sK (hx := rfl) (r1) ?_
      simp only [pu', p0', c1', c0', i1', z0', b8_nat]
      refine smove ?_
      simp only [pu', p0', c1', c0', i1', z0', b8_nat]
      refine sext ?_
      simp only [pu', p0', c1', c0', i1', z0', b8_nat]
      refine sext ?_
      simp only [pu', p0', c1', c0', i1', z0', b8_nat]
      refine salloc ?_
      simp only [pu', p0', c1', c0', i1', n0', n3', n1', n2', a2', a1', a0', n4', Nat.reduceAdd, z0', n5', sa0, sa1, sa2, sa3, sa4, sa5, sa6, sa7, sa8, sa9, sa10, sa11]
      refine sstoreF ?_
      simp only [pu', p0', c1', c0', i1', n0', n3', n1', n2', a2', a1', a0', n4', Nat.reduceAdd, z0', n5', sa0, sa1, sa2, sa3, sa4, sa5, sa6, sa7, sa8, sa9, sa10, sa11]
      refine sassign ?_
      simp only [pu', p0', c1', c0', i1', z0', b8_nat]
      with_reducible refine s_end ?_
      with_reducible refine s_then ?_
      with_reducible refine s_seq ?_
      with_reducible refine s_seq ?_
      with_reducible refine s_reg ?_
      refine smove ?_
      simp only [pu', p0', c1', c0', i1', z0', b8_nat]
      refine sNe (fun hb => ?_) (fun hb => ?_)
      replace hb := dT' hb
      (exfalso; omega)
      replace hb := dF' hb
      simp only [pu', p0', c1', c0', i1', z0', b8_nat]
      with_reducible refine s_end ?_
      with_reducible refine s_then ?_
      refine sCF ?_
      with_reducible refine s_skip ?_
      with_reducible refine s_then ?_
      with_reducible refine s_seq ?_
      with_reducible refine s_seq ?_
      with_reducible refine s_reg ?_
      refine smove ?_
      simp only [pu', p0', c1', c0', i1', z0', b8_nat]
      refine ssub ?_
      simp only [pu', p0', c1', c0', i1', z0', b8_nat]
      refine sassign ?_
      simp only [pu', p0', c1', c0', i1', z0', b8_nat]
      with_reducible refine s_end ?_
      with_reducible refine s_then ?_
      with_reducible refine s_block ?_
      rotate_left 1
    all_goals
      refine s_loop hm (fun (b : TuB) s' => [sq, I z, s' 2, s' 3, s' 4, s' 5, s' 6, s' 7, s' 8, s' 9, s' 10, s' 11, s' 12, s' 13, s' 14, .ptr Y'.length 0, I ((b.j : Int) - 1), s' 17, s' 18, s' 19, s' 20, s' 21, s' 22, s' 23, s' 24, s' 25, s' 26, s' 27, s' 28, s' 29, s' 30, s' 31, s' 32, s' 33, s' 34, s' 35, s' 36, s' 37, s' 38, s' 39, s' 40, s' 41, s' 42, s' 43, s' 44, s' 45, s' 46, s' 47, s' 48, s' 49, s' 50, s' 51, s' 52, s' 53, s' 54, s' 55, s' 56, s' 57, s' 58, s' 59, s' 60, s' 61, s' 62, s' 63, s' 64, s' 65, s' 66, s' 67, s' 68, s' 69, s' 70, s' 71, s' 72, s' 73, s' 74, s' 75, s' 76, s' 77, s' 78, s' 79, s' 80, s' 81, s' 82, s' 83, s' 84, s' 85, s' 86, s' 87, s' 88, s' 89, s' 90, s' 91, s' 92, s' 93, s' 94, s' 95, s' 96, s' 97, s' 98, s' 99, s' 100, s' 101, s' 102, s' 103, s' 104, s' 105, s' 106, s' 107, s' 108, s' 109, s' 110, s' 111, s' 112, s' 113, s' 114, s' 115, s' 116, s' 117, s' 118, s' 119, s' 120, s' 121, s' 122, s' 123, s' 124, s' 125, s' 126, s' 127, s' 128, s' 129, s' 130, s' 131, s' 132, s' 133, s' 134]) (fun b => b.G) (fun b => b.j ≤ j ∧ Sep h b.G [pcC Y'.length (.cells [St (List.replicate Z 0 ++ s0), I ((8 * Z + al nums b.j : Nat) : Int)] 39 true)]) (fun b => b.j) ⟨j, _⟩ (by rfl) (by rfl) ⟨Nat.le_refl _, ?_⟩ ?_
      · simp only []
        exact (Sep.take1 inferInstance (TakeC.tp (i := Y'.length) inferInstance)).sub (by repeat' first | exact List.Sublist.refl _ | exact List.sublist_append_left _ _ | exact List.nil_sublist _ | refine List.Sublist.cons_cons _ ?_ | refine List.Sublist.cons _ ?_ | refine List.Sublist.trans ?_ (List.sublist_append_left _ _))
      rintro ⟨i, G2⟩ s2 ⟨hi, S6⟩
      simp only [] at hi S6 ⊢
      by_cases hi0 : i = 0
      · subst hi0
        have e0 : ((8 * Z + al nums 0 : Nat) : Int) = 8 * (Z : Int) := by simp [al]
        rw [e0] at S6
        focus
          with_reducible refine s_seq ?_
          with_reducible refine s_seq ?_
          with_reducible refine s_reg ?_
          refine smove ?_
          simp only [pu', p0', c1', c0', i1', z0', b8_nat]
          refine sGe (fun hb => ?_) (fun hb => ?_)
          replace hb := dT' hb
          (exfalso; omega)
          replace hb := dF' hb
          simp only [pu', p0', c1', c0', i1', z0', b8_nat]
          with_reducible refine s_end ?_
          with_reducible refine s_then ?_
          refine sCF ?_
          with_reducible refine s_exit ?_
          with_reducible refine s_thenE ?_
          with_reducible refine l_exit ?_
          with_reducible refine s_blkE ?_
          with_reducible refine s_then ?_
          with_reducible refine s_seq ?_
          (refine s_regQ (id := 25) [(0, true), (1, true), (2, true), (3, false), (4, true), (5, true), (6, true), (7, false), (8, true), (9, true)] (by kernel_rfl) (by conv => lhs; simp only [pickO, List.getElem?_cons_succ, List.getElem?_cons_zero]) ?_)
          refine qfad ?_
          simp only [pu', p0', c1', c0', i1', z0', b8_nat]
          refine qload1 ?_
          simp only [pu', p0', c1', c0', i1', z0', b8_nat]
          refine qmove ?_
          simp only [pu', p0', c1', c0', i1', z0', b8_nat]
          refine qK (hx := rfl) (m1) ?_
          simp only [pu', p0', c1', c0', i1', z0', b8_nat]
          refine qmul ?_
          simp only [pu', p0', c1', c0', i1', z0', b8_nat]
          refine qEq (fun hb => ?_) (fun hb => ?_)
          replace hb := dT' hb
          simp only [pu', p0', c1', c0', i1', z0', b8_nat]
          refine qmove ?_
          simp only [pu', p0', c1', c0', i1', z0', b8_nat]
          refine qK (hx := rfl) (awakeA) ?_
          simp only [pu', p0', c1', c0', i1', z0', b8_nat]
          refine qpickT ?_
          simp only [pu', p0', c1', c0', i1', z0', b8_nat]
          refine qassign ?_
          simp only [pu', p0', c1', c0', i1', z0', b8_nat]
          with_reducible refine q_end ?_
          with_reducible refine s_then ?_
          with_reducible refine s_ret ?_
          rotate_left 1
          replace hb := dF' hb
          exact absurd rfl hb
        all_goals
          all_goals try with_reducible refine w_n ?_
          all_goals refine w_1 rfl (by first | exact v_t (by rfl) | exact v_c1 (C1.p) (by rfl) (HA.p) (by rfl) | exact v_cF (CA.p) (by rfl) (HA.p) (by rfl)) ?_
          rfl
      · obtain ⟨i, rfl⟩ : ∃ k, i = k + 1 := ⟨i - 1, by omega⟩
        have w1 := widthA (nums.getD i 0) (hwf i)
        rw [hwd] at w1
        have hK := wK_le nums i
        have v1 := valueA (nums.getD i 0) (wK nums i) (hwf i) hK
        have hal := al_mono nums hi
        have hae : al nums (i + 1) = al nums i + wK nums i := rfl
        have t2 := t1 (8 * Z + al nums (i + 1)) (wK nums i) (by omega) (by omega) hK
        rw [show 8 * Z + al nums (i + 1) - wK nums i = 8 * Z + al nums i by omega, zeros_div, read_at nums (show i < j by omega)] at t2
        have e16 : ((i + 1 : Nat) : Int) - 1 = (i : Int) := by omega
        rw [e16]
        have hwv : valN (nums.getD i 0) (wK nums i) = wV nums i := rfl
        rw [hwv] at v1
        focus
          with_reducible refine s_seq ?_
          with_reducible refine s_seq ?_
          with_reducible refine s_reg ?_
          refine smove ?_
          simp only [pu', p0', c1', c0', i1', z0', b8_nat]
          refine sGe (fun hb => ?_) (fun hb => ?_)
          replace hb := dT' hb
          simp only [pu', p0', c1', c0', i1', z0', b8_nat]
          with_reducible refine s_end ?_
          with_reducible refine s_then ?_
          refine sCT ?_
          with_reducible refine s_skip ?_
          with_reducible refine s_then ?_
          with_reducible refine s_seq ?_
          with_reducible refine s_block ?_
          with_reducible refine s_seq ?_
          with_reducible refine s_reg ?_
          refine smove ?_
          simp only [pu', p0', c1', c0', i1', z0', b8_nat]
          refine smove ?_
          simp only [pu', p0', c1', c0', i1', z0', b8_nat]
          refine sidxE ?_
          simp only [pu', p0', c1', c0', i1', z0', b8_nat]
          refine sloadE1 ?_
          simp only [pu', p0', c1', c0', i1', z0', b8_nat]
          refine sK (hx := rfl) (w1) ?_
          simp only [pu', p0', c1', c0', i1', z0', b8_nat]
          refine sassign ?_
          simp only [pu', p0', c1', c0', i1', z0', b8_nat]
          with_reducible refine s_end ?_
          with_reducible refine s_then ?_
          with_reducible refine s_seq ?_
          with_reducible refine s_reg ?_
          refine sloadW ?_
          simp only [pu', p0', c1', c0', i1', z0', b8_nat]
          refine smove ?_
          simp only [pu', p0', c1', c0', i1', z0', b8_nat]
          refine sK (hx := rfl) (t2) ?_
          simp only [pu', p0', c1', c0', i1', z0', b8_nat]
          refine smove ?_
          simp only [pu', p0', c1', c0', i1', z0', b8_nat]
          refine sext ?_
          simp only [pu', p0', c1', c0', i1', z0', b8_nat]
          refine sext ?_
          simp only [pu', p0', c1', c0', i1', z0', b8_nat]
          refine sext ?_
          simp only [pu', p0', c1', c0', i1', z0', b8_nat]
          refine salloc ?_
          simp only [pu', p0', c1', c0', i1', n0', n3', n1', n2', a2', a1', a0', n4', Nat.reduceAdd, z0', n5', sa0, sa1, sa2, sa3, sa4, sa5, sa6, sa7, sa8, sa9, sa10, sa11]
          refine sstoreF ?_
          simp only [pu', p0', c1', c0', i1', n0', n3', n1', n2', a2', a1', a0', n4', Nat.reduceAdd, z0', n5', sa0, sa1, sa2, sa3, sa4, sa5, sa6, sa7, sa8, sa9, sa10, sa11]
          refine sassign ?_
          simp only [pu', p0', c1', c0', i1', z0', b8_nat]
          refine sassign ?_
          simp only [pu', p0', c1', c0', i1', z0', b8_nat]
          with_reducible refine s_end ?_
          with_reducible refine s_then ?_
          with_reducible refine s_seq ?_
          with_reducible refine s_seq ?_
          with_reducible refine s_reg ?_
          refine smove ?_
          simp only [pu', p0', c1', c0', i1', z0', b8_nat]
          refine sNe (fun hb => ?_) (fun hb => ?_)
          replace hb := dT' hb
          (exfalso; omega)
          replace hb := dF' hb
          simp only [pu', p0', c1', c0', i1', z0', b8_nat]
          refine smove ?_
          simp only [pu', p0', c1', c0', i1', z0', b8_nat]
          refine smove ?_
          simp only [pu', p0', c1', c0', i1', z0', b8_nat]
          refine smove ?_
          simp only [pu', p0', c1', c0', i1', z0', b8_nat]
          refine smove ?_
          simp only [pu', p0', c1', c0', i1', z0', b8_nat]
          refine sidxE ?_
          simp only [pu', p0', c1', c0', i1', z0', b8_nat]
          refine sloadE1 ?_
          simp only [pu', p0', c1', c0', i1', z0', b8_nat]
          refine smove ?_
          simp only [pu', p0', c1', c0', i1', z0', b8_nat]
          refine sK (hx := rfl) (v1) ?_
          simp only [pu', p0', c1', c0', i1', z0', b8_nat]
          refine sNe (fun hb => ?_) (fun hb => ?_)
          replace hb := dT' hb
          (exfalso; omega)
          replace hb := dF' hb
          simp only [pu', p0', c1', c0', i1', z0', b8_nat]
          refine spickF ?_
          simp only [pu', p0', c1', c0', i1', z0', b8_nat]
          with_reducible refine s_end ?_
          with_reducible refine s_then ?_
          refine sCF ?_
          with_reducible refine s_skip ?_
          with_reducible refine s_then ?_
          with_reducible refine s_reg ?_
          refine sloadW ?_
          simp only [pu', p0', c1', c0', i1', z0', b8_nat]
          refine sstoreF ?_
          simp only [pu', p0', c1', c0', i1', n0', n3', n1', n2', a2', a1', a0', n4', Nat.reduceAdd, z0', n5', sa0, sa1, sa2, sa3, sa4, sa5, sa6, sa7, sa8, sa9, sa10, sa11]
          with_reducible refine s_end ?_
          with_reducible refine s_blkN ?_
          with_reducible refine s_then ?_
          with_reducible refine s_reg ?_
          refine smove ?_
          simp only [pu', p0', c1', c0', i1', z0', b8_nat]
          refine ssub ?_
          simp only [pu', p0', c1', c0', i1', z0', b8_nat]
          refine sassign ?_
          simp only [pu', p0', c1', c0', i1', z0', b8_nat]
          with_reducible refine s_end ?_
          rotate_left 1
          replace hb := dF' hb
          (exfalso; omega)
        all_goals
          refine l_next ⟨i, _⟩ ⟨by simp only []; omega, ?_⟩ (by simp only []; omega) (by rfl) (by rfl)
          simp only []
          exact Sep.sub inferInstance (by repeat' first | exact List.Sublist.refl _ | exact List.sublist_append_left _ _ | exact List.nil_sublist _ | refine List.Sublist.cons_cons _ ?_ | refine List.Sublist.cons _ ?_ | refine List.Sublist.trans ?_ (List.sublist_append_left _ _))
end Go.Proofs.Ytlmoenjggggpkaa
